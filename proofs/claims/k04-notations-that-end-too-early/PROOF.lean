import PyProof.Rows.All
import Wide.All
import OpenK.AllK
import Wide.FinOn
import HandS.ForMost
import HandS.ForExc
import HandS.IsInst
import HandS.Wide
import HandS.Lambda
import HandS.TupAny
import HandS.TupMul
import HandS.Text
import HandS.Steps
import HandS.NoneIn
import HandS.Iter
import HandS.EndBits
import HandS.RaiseMore
import HandS.Dict
import HandS.More
import HandS.ListItems
import KE.KExcSuper
import HandS.ExcField
import HandS.ExcIs
import HandS.ExcBuiltin
import PyProof.ReprRoads
import KE.KExcIs
import HandS.DictComp
import HandS.Style
import HandS.StrMore
import PyProof.StrLawsRepr
import PySem.Challenge.RW_messageways_k04_notations_that_end_too_e
set_option Elab.async false
set_option linter.all false
set_option maxRecDepth 100000
set_option maxHeartbeats 4000000
namespace DL
open PySem L2

/-! ### data -/
inductive D where
  | non | bl (b : Bool) | int (i : Int) | str (x : Str)
  | lst (xs : List D) | tup (xs : List D) | dct (ks : List Key) (xs : List D)
  | ins (c : Nat) (ns : List Str) (xs : List D) | ptr (i : Nat) | scr (ns : List Int)

/-- what is fixed: the written part, the classes by number -/
structure Cn where
  K : PySem.W.Frag
  cls : Nat → Addr

mutual
def Rep (C : Cn) (ρ : List Addr) (G : Hp) : D → V → Prop
  | .non, v => v = .non
  | .bl b, v => v = .bl b
  | .int i, v => v = .int i
  | .str x, v => v = .str x
  | .lst xs, v => ∃ a vs, v = .ref a ∧ G a = some (.lst vs) ∧ Reps C ρ G xs vs
  | .tup xs, v => ∃ a vs, v = .ref a ∧ SqT C.K G a vs ∧ Reps C ρ G xs vs
  | .dct ks xs, v => ∃ a vs, v = .ref a ∧ G a = some (.dK (ks.zip vs)) ∧ ks.length = xs.length ∧ Reps C ρ G xs vs
  | .ins c ns xs, v => ∃ a dx vs, v = .ref a ∧ G a = some (.ins (C.cls (c + 3)) dx (ns.zip vs)) ∧ ns.length = xs.length ∧ Reps C ρ G xs vs
  | .ptr i, v => ∃ a, ρ[i]? = some a ∧ v = .ref a
  | .scr ns, v => ∃ a, v = .ref a ∧ SqL C.K G a (ns.map V.int)
def Reps (C : Cn) (ρ : List Addr) (G : Hp) : List D → List V → Prop
  | [], vs => vs = []
  | x :: xs, vs => ∃ v r, vs = v :: r ∧ Rep C ρ G x v ∧ Reps C ρ G xs r
end

section
variable {C : Cn} {ρ ρ' : List Addr} {G G' H H' : Hp}

def Sub (G G' : Hp) : Prop := ∀ a o, G a = some o → G' a = some o
theorem Sub.refl : Sub G G := fun _ _ h => h
theorem Sub.trans {G1 G2 G3 : Hp} (a : Sub G1 G2) (b : Sub G2 G3) : Sub G1 G3 := fun x o h => b x o (a x o h)
theorem Sub.sqT {K : PySem.W.Frag} {a : Addr} {xs : List V} (e : Sub G G') (h : SqT K G a xs) : SqT K G' a xs := by
  rcases h with (h | ⟨o, h⟩) | h
  · exact .inl (.inl (e _ _ h))
  · exact .inl (.inr ⟨o, e _ _ h⟩)
  · exact .inr h
theorem Sub.sqL {K : PySem.W.Frag} {a : Addr} {xs : List V} (e : Sub G G') (h : SqL K G a xs) : SqL K G' a xs := by
  rcases h with (h | ⟨o, h⟩) | h
  · exact .inl (.inl (e _ _ h))
  · exact .inl (.inr ⟨o, e _ _ h⟩)
  · exact .inr h

/-- the same object, or a dict that is locked -/
def EqK (o o' : HO) : Prop := o' = o ∨ ∃ kvs ob, o = .dK kvs ∧ o' = .frz ob (.dK kvs)
/-- the names of the code objects that a table holds, by the table's number -/
def tabName : Nat → Str
  | 1 => "union.<locals>.<lambda>"
  | 2 => "common.<locals>.<lambda>"
  | 3 => "difference.<locals>.<lambda>"
  | 4 => "relation_holds.<locals>.<genexpr>"
  | 5 => "condition_holds.<locals>.<genexpr>"
  | 6 => "condition_holds.<locals>.<genexpr>.<locals>.<genexpr>"
  | 7 => "natural_of.<locals>.<genexpr>"
  | _ => ""
def Tab (C : Cn) (H : Hp) (i : Nat) : Prop := C.cls (i + 1000) ≠ 0 → LamX.TabS H (C.cls (i + 1000)) (tabName i)
def NoTE (o : Option HO) : Prop := (∀ ps, o ≠ some (.tbl ps)) ∧ ∀ f, o ≠ some (.ext f)
theorem Tab.upd {i : Nat} {a : Addr} {o : HO} (t : Tab C H i) (h : NoTE (H a)) : Tab C (upd H a o) i := fun z => by
  obtain ⟨ps, h1, h2, h3⟩ := t z
  refine ⟨ps, by rw [upd_ne (fun y => h.1 ps (by rw [← y]; exact h1))]; exact h1, h2, fun pos cv hc => ?_⟩
  obtain ⟨c, e1, e2⟩ := h3 pos cv hc
  exact ⟨c, e1, by rw [upd_ne (fun y => h.2 _ (by rw [← y]; exact e2))]; exact e2⟩
/-- what is settled stands in the heap; so do the tables of code objects -/
structure SubH (C : Cn) (G H : Hp) : Prop where
  at_ : ∀ a o, G a = some o → ∃ o', H a = some o' ∧ EqK o o'
  tab : ∀ i, Tab C H i
theorem SubH.get (e : SubH C G H) {a : Addr} {o : HO} (h : G a = some o) (n : ∀ kvs, o ≠ .dK kvs) : H a = some o := by
  obtain ⟨o', h1, h2 | ⟨kvs, ob, h2, _⟩⟩ := e.at_ a o h
  · rw [h1, h2]
  · exact absurd h2 (n kvs)
theorem SubH.has (e : SubH C G H) {a : Addr} {o : HO} (h : G a = some o) : ∃ o', H a = some o' := by
  obtain ⟨o', h1, _⟩ := e.at_ a o h
  exact ⟨o', h1⟩
theorem SubH.dk (e : SubH C G H) {a : Addr} {kvs : List (Key × V)} (h : G a = some (.dK kvs)) : Rd H a (.dK kvs) := by
  obtain ⟨o', h1, h2 | ⟨kvs', ob, h2, h3⟩⟩ := e.at_ a _ h
  · exact .inl (by rw [h1, h2])
  · cases h2; exact .inr ⟨ob, by rw [h1, h3]⟩
theorem SubH.gone (e : SubH C G H) {a : Addr} (h : H a = none) : G a = none := by
  cases q : G a with
  | none => rfl
  | some u => obtain ⟨o', h1⟩ := e.has q; rw [h1] at h; cases h
theorem SubH.sqT {K : PySem.W.Frag} {a : Addr} {xs : List V} (e : SubH C G H) (h : SqT K G a xs) : SqT K H a xs := by
  rcases h with (h | ⟨o, h⟩) | h
  · exact .inl (.inl (e.get h fun _ z => nomatch z))
  · exact .inl (.inr ⟨o, e.get h fun _ z => nomatch z⟩)
  · exact .inr h
theorem SubH.sqL {K : PySem.W.Frag} {a : Addr} {xs : List V} (e : SubH C G H) (h : SqL K G a xs) : SqL K H a xs := by
  rcases h with (h | ⟨o, h⟩) | h
  · exact .inl (.inl (e.get h fun _ z => nomatch z))
  · exact .inl (.inr ⟨o, e.get h fun _ z => nomatch z⟩)
  · exact .inr h
theorem SubH.lst {a : Addr} {xs : List V} (e : SubH C G H) (h : G a = some (.lst xs)) : H a = some (.lst xs) := e.get h fun _ z => nomatch z
theorem SubH.back {G0 : Hp} (e : SubH C G H) (s : Sub G0 G) : SubH C G0 H := ⟨fun a o h => e.at_ a o (s a o h), e.tab⟩
theorem SubH.upd {a : Addr} {o : HO} (e : SubH C G H) (hg : G a = none) (h : NoTE (H a)) : SubH C G (L2.upd H a o) := ⟨fun b u q => by rw [upd_ne (ne_of_none q hg)]; exact e.at_ b u q, fun i => (e.tab i).upd h⟩
theorem SubH.put {p : Addr} {o : HO} (e : SubH C G H) (ho : H p = some o) : SubH C (L2.upd G p o) H := ⟨fun a u h => by
  by_cases z : a = p
  · subst z; rw [upd_same] at h; cases h; exact ⟨_, ho, .inl rfl⟩
  · rw [upd_ne z] at h; exact e.at_ a u h, e.tab⟩
theorem noTE_none : NoTE none := ⟨fun _ z => (nomatch z), fun _ z => (nomatch z)⟩
theorem noTE_of {a : Addr} (h : H a = none) : NoTE (H a) := by rw [h]; exact noTE_none
theorem noTE_lst {a : Addr} {xs : List V} (h : H a = some (.lst xs)) : NoTE (H a) := by rw [h]; exact ⟨fun _ z => (nomatch z), fun _ z => (nomatch z)⟩
theorem noTE_dK {a : Addr} {xs : List (Key × V)} (h : H a = some (.dK xs)) : NoTE (H a) := by rw [h]; exact ⟨fun _ z => (nomatch z), fun _ z => (nomatch z)⟩

mutual
theorem Rep.mono (e : Sub G G') (p : ρ <+: ρ') : ∀ (d : D) (v : V), Rep C ρ G d v → Rep C ρ' G' d v
  | .non, _, h => by rw [Rep] at h ⊢; exact h
  | .bl _, _, h => by rw [Rep] at h ⊢; exact h
  | .int _, _, h => by rw [Rep] at h ⊢; exact h
  | .str _, _, h => by rw [Rep] at h ⊢; exact h
  | .lst xs, _, h => by
    rw [Rep] at h ⊢
    obtain ⟨a, vs, rfl, h1, h2⟩ := h
    exact ⟨a, vs, rfl, e _ _ h1, Reps.mono e p xs vs h2⟩
  | .tup xs, _, h => by
    rw [Rep] at h ⊢
    obtain ⟨a, vs, rfl, h1, h2⟩ := h
    exact ⟨a, vs, rfl, e.sqT h1, Reps.mono e p xs vs h2⟩
  | .dct ks xs, _, h => by
    rw [Rep] at h ⊢
    obtain ⟨a, vs, rfl, h1, h3, h2⟩ := h
    exact ⟨a, vs, rfl, e _ _ h1, h3, Reps.mono e p xs vs h2⟩
  | .ins c ns xs, _, h => by
    rw [Rep] at h ⊢
    obtain ⟨a, dx, vs, rfl, h1, h3, h2⟩ := h
    exact ⟨a, dx, vs, rfl, e _ _ h1, h3, Reps.mono e p xs vs h2⟩
  | .ptr i, _, h => by
    rw [Rep] at h ⊢
    obtain ⟨a, h1, rfl⟩ := h
    obtain ⟨t, rfl⟩ := p
    exact ⟨a, by rw [List.getElem?_append_left (List.getElem?_eq_some_iff.mp h1).1]; exact h1, rfl⟩
  | .scr ns, _, h => by
    rw [Rep] at h ⊢
    obtain ⟨a, rfl, h1⟩ := h
    exact ⟨a, rfl, e.sqL h1⟩
theorem Reps.mono (e : Sub G G') (p : ρ <+: ρ') : ∀ (ds : List D) (vs : List V), Reps C ρ G ds vs → Reps C ρ' G' ds vs
  | [], _, h => by rw [Reps] at h ⊢; exact h
  | x :: xs, _, h => by
    rw [Reps] at h ⊢
    obtain ⟨v, r, rfl, h1, h2⟩ := h
    exact ⟨v, r, rfl, Rep.mono e p x v h1, Reps.mono e p xs r h2⟩
end

theorem Reps.nil : Reps C ρ G [] [] := by rw [Reps]
theorem Reps.cons {x : D} {xs : List D} {v : V} {vs : List V} (h : Rep C ρ G x v) (t : Reps C ρ G xs vs) : Reps C ρ G (x :: xs) (v :: vs) := by rw [Reps]; exact ⟨v, vs, rfl, h, t⟩
theorem Reps.inv {x : D} {xs : List D} {vs : List V} (h : Reps C ρ G (x :: xs) vs) : ∃ v r, vs = v :: r ∧ Rep C ρ G x v ∧ Reps C ρ G xs r := by rw [Reps] at h; exact h
theorem Reps.inv0 {vs : List V} (h : Reps C ρ G [] vs) : vs = [] := by rw [Reps] at h; exact h
theorem Reps.length : ∀ {ds : List D} {vs : List V}, Reps C ρ G ds vs → ds.length = vs.length
  | [], _, h => by rw [h.inv0]; rfl
  | x :: xs, _, h => by
    obtain ⟨v, r, rfl, _, h2⟩ := h.inv
    rw [List.length_cons, List.length_cons, Reps.length h2]
theorem Reps.get : ∀ {ds : List D} {vs : List V} {i : Nat} {d : D}, Reps C ρ G ds vs → ds[i]? = some d → ∃ v, vs[i]? = some v ∧ Rep C ρ G d v
  | [], _, _, _, _, e => by simp at e
  | x :: xs, _, 0, d, h, e => by
    obtain ⟨v, r, rfl, h1, h2⟩ := h.inv
    simp at e; subst e
    exact ⟨v, rfl, h1⟩
  | x :: xs, _, i + 1, d, h, e => by
    obtain ⟨v, r, rfl, h1, h2⟩ := h.inv
    simpa using Reps.get (i := i) h2 (by simpa using e)
theorem Reps.get' : ∀ {ds : List D} {vs : List V} {i : Nat} {v : V}, Reps C ρ G ds vs → vs[i]? = some v → ∃ d, ds[i]? = some d ∧ Rep C ρ G d v
  | [], _, _, _, h, e => by rw [h.inv0] at e; simp at e
  | x :: xs, _, 0, d, h, e => by
    obtain ⟨v, r, rfl, h1, h2⟩ := h.inv
    simp at e; subst e
    exact ⟨x, rfl, h1⟩
  | x :: xs, _, i + 1, d, h, e => by
    obtain ⟨v, r, rfl, h1, h2⟩ := h.inv
    simpa using Reps.get' (i := i) h2 (by simpa using e)
theorem Reps.append : ∀ {ds es : List D} {vs ws : List V}, Reps C ρ G ds vs → Reps C ρ G es ws → Reps C ρ G (ds ++ es) (vs ++ ws)
  | [], _, _, _, h, k => by rw [h.inv0]; exact k
  | x :: xs, _, _, _, h, k => by
    obtain ⟨v, r, rfl, h1, h2⟩ := h.inv
    exact .cons h1 (Reps.append h2 k)
theorem Reps.take : ∀ {ds : List D} {vs : List V} (n : Nat), Reps C ρ G ds vs → Reps C ρ G (ds.take n) (vs.take n)
  | _, _, 0, _ => by simpa using Reps.nil
  | [], _, n + 1, h => by rw [h.inv0]; exact Reps.nil
  | x :: xs, _, n + 1, h => by
    obtain ⟨v, r, rfl, h1, h2⟩ := h.inv
    exact .cons h1 (Reps.take n h2)
theorem Reps.drop : ∀ {ds : List D} {vs : List V} (n : Nat), Reps C ρ G ds vs → Reps C ρ G (ds.drop n) (vs.drop n)
  | _, _, 0, h => h
  | [], _, n + 1, h => by rw [h.inv0]; exact Reps.nil
  | x :: xs, _, n + 1, h => by
    obtain ⟨v, r, rfl, h1, h2⟩ := h.inv
    exact Reps.drop n h2
theorem Reps.set {d : D} {v : V} (k : Rep C ρ G d v) : ∀ {ds : List D} {vs : List V} (n : Nat), Reps C ρ G ds vs → Reps C ρ G (ds.set n d) (vs.set n v)
  | [], _, n, h => by rw [h.inv0]; exact Reps.nil
  | x :: xs, _, 0, h => by
    obtain ⟨v, r, rfl, h1, h2⟩ := h.inv
    exact .cons k h2
  | x :: xs, _, n + 1, h => by
    obtain ⟨v, r, rfl, h1, h2⟩ := h.inv
    exact .cons h1 (Reps.set k n h2)
theorem Reps.reverse : ∀ {ds : List D} {vs : List V}, Reps C ρ G ds vs → Reps C ρ G ds.reverse vs.reverse
  | [], _, h => by rw [h.inv0]; exact Reps.nil
  | x :: xs, _, h => by
    obtain ⟨v, r, rfl, h1, h2⟩ := h.inv
    rw [List.reverse_cons, List.reverse_cons]
    exact (Reps.reverse h2).append (.cons h1 .nil)
theorem Reps.rep {ds : List D} {vs : List V} (h : Reps C ρ G ds vs) : ∀ k : Nat, Reps C ρ G (List.replicate k ds).flatten (List.replicate k vs).flatten
  | 0 => .nil
  | k + 1 => by
    rw [List.replicate_succ, List.replicate_succ, List.flatten_cons, List.flatten_cons]
    exact h.append (Reps.rep h k)
theorem Reps.dropLast {ds : List D} {vs : List V} (h : Reps C ρ G ds vs) : Reps C ρ G ds.dropLast vs.dropLast := by
  rw [List.dropLast_eq_take, List.dropLast_eq_take, h.length]; exact h.take _

/-! ### what stands at an address that may change -/
def ObAt (C : Cn) (ρ : List Addr) (G H : Hp) (a : Addr) : D → Prop
  | .lst xs => ∃ vs, H a = some (.lst vs) ∧ Reps C ρ G xs vs
  | .dct ks xs => ∃ vs, H a = some (.dK (ks.zip vs)) ∧ ks.length = xs.length ∧ Reps C ρ G xs vs
  | .ins c ns xs => ∃ dx vs, H a = some (.ins (C.cls (c + 3)) dx (ns.zip vs)) ∧ ns.length = xs.length ∧ Reps C ρ G xs vs
  | _ => False
theorem ObAt.mono {a : Addr} (e : Sub G G') (p : ρ <+: ρ') (k : ∀ o, H a = some o → H' a = some o) : ∀ {d : D}, ObAt C ρ G H a d → ObAt C ρ' G' H' a d
  | .lst xs, ⟨vs, h, r⟩ => ⟨vs, k _ h, Reps.mono e p _ _ r⟩
  | .dct ks xs, ⟨vs, h, l, r⟩ => ⟨vs, k _ h, l, Reps.mono e p _ _ r⟩
  | .ins c ns xs, ⟨dx, vs, h, l, r⟩ => ⟨dx, vs, k _ h, l, Reps.mono e p _ _ r⟩
theorem ObAt.some {a : Addr} : ∀ {d : D}, ObAt C ρ G H a d → ∃ o, H a = some o
  | .lst xs, ⟨vs, h, _⟩ => ⟨_, h⟩
  | .dct ks xs, ⟨vs, h, _⟩ => ⟨_, h⟩
  | .ins c ns xs, ⟨dx, vs, h, _⟩ => ⟨_, h⟩
theorem ObAt.plain {a : Addr} : ∀ {d : D}, ObAt C ρ G H a d → NoTE (H a)
  | .lst xs, ⟨vs, h, _⟩ => by rw [h]; exact ⟨fun _ z => (nomatch z), fun _ z => (nomatch z)⟩
  | .dct ks xs, ⟨vs, h, _⟩ => by rw [h]; exact ⟨fun _ z => (nomatch z), fun _ z => (nomatch z)⟩
  | .ins c ns xs, ⟨dx, vs, h, _⟩ => by rw [h]; exact ⟨fun _ z => (nomatch z), fun _ z => (nomatch z)⟩
/-- an object that changes no more -/
theorem ObAt.rep {a : Addr} : ∀ {d : D}, ObAt C ρ G G a d → Rep C ρ G d (V.ref a)
  | .lst xs, ⟨vs, h, r⟩ => by rw [Rep]; exact ⟨a, vs, rfl, h, r⟩
  | .dct ks xs, ⟨vs, h, l, r⟩ => by rw [Rep]; exact ⟨a, vs, rfl, h, l, r⟩
  | .ins c ns xs, ⟨dx, vs, h, l, r⟩ => by rw [Rep]; exact ⟨a, dx, vs, rfl, h, l, r⟩

/-! ### the slots -/
structure Exn where
  c : Nat
  ns : List Str
  fs : List D
inductive Sl where
  | non | val (d : D) | own (d : D) | xcp (x : Exn)
/-- the exception that is handled: it stands at C.cls 0, its dict, if it has one, at C.cls 1 less one, its class is C.cls 2 -/
def XOk (C : Cn) (ρ : List Addr) (G : Hp) (x : Exn) : Prop := C.cls 2 = C.cls (x.c + 3) ∧ (x.fs = [] → C.cls 1 = 0) ∧ (x.fs ≠ [] → ∃ d vs, C.cls 1 = d + 1 ∧ G d = some (.xd (x.ns.zip vs)) ∧ x.ns.length = x.fs.length ∧ Reps C ρ G x.fs vs)
theorem XOk.mono {x : Exn} (e : Sub G G') (p : ρ <+: ρ') (h : XOk C ρ G x) : XOk C ρ' G' x := ⟨h.1, h.2.1, fun z => by
  obtain ⟨d, vs, q, a, b, c⟩ := h.2.2 z
  exact ⟨d, vs, q, e _ _ a, b, Reps.mono e p _ _ c⟩⟩

structure Mem (C : Cn) (Γ : List Sl) (S : List D) (ρ : List Addr) (G H : Hp) (σ : L2.St) : Prop where
  sub : SubH C G H
  val : ∀ (i : Nat) (d : D), Γ[i]? = some (Sl.val d) → ∃ v, σ[i]? = some (some v) ∧ Rep C ρ G d v
  own : ∀ (i : Nat) (d : D), Γ[i]? = some (Sl.own d) → ∃ a, σ[i]? = some (some (V.ref a)) ∧ ObAt C ρ G H a d ∧ G a = none ∧ a ∉ ρ
  inj : ∀ (i j : Nat) (d d' : D) (a : Addr), Γ[i]? = some (Sl.own d) → Γ[j]? = some (Sl.own d') → σ[i]? = some (some (V.ref a)) → σ[j]? = some (some (V.ref a)) → i = j
  sto : ∀ (i : Nat) (d : D), S[i]? = some d → ∃ a, ρ[i]? = some a ∧ ObAt C ρ G H a d
  stG : ∀ a ∈ ρ, G a = none
  len : ρ.length = S.length
  nd : ρ.Nodup
  wid : Γ.length = σ.length
  xcp : ∀ (i : Nat) (x : Exn), Γ[i]? = some (Sl.xcp x) → σ[i]? = some (some (V.ref (C.cls 0))) ∧ XOk C ρ G x

/-- what an expression does to the memory -/
structure Nx (ρ : List Addr) (G H : Hp) (ρ' : List Addr) (G' H' : Hp) : Prop where
  pre : ρ <+: ρ'
  ext : Sub G G'
  new : ∀ a o, G' a = some o → G a = some o ∨ H a = none
  keep : ∀ a o, (∀ ps, o ≠ .tbl ps) → H a = some o → a ∉ ρ → H' a = some o
  live : ∀ a, H' a = none → H a = none
  fre : ∀ a ∈ ρ', a ∈ ρ ∨ H a = none
theorem Nx.refl : Nx ρ G H ρ G H := ⟨List.prefix_refl _, .refl, fun _ _ h => .inl h, fun _ _ _ h _ => h, fun _ h => h, fun _ h => .inl h⟩
theorem Nx.trans {ρ1 ρ2 ρ3 : List Addr} {G1 G2 G3 H1 H2 H3 : Hp} (x : Nx ρ1 G1 H1 ρ2 G2 H2) (y : Nx ρ2 G2 H2 ρ3 G3 H3) : Nx ρ1 G1 H1 ρ3 G3 H3 where
  pre := x.pre.trans y.pre
  ext := x.ext.trans y.ext
  new := fun a o h => by
    rcases y.new a o h with h | h
    · exact x.new a o h
    · exact .inr (x.live a h)
  keep := fun a o t h n => by
    refine y.keep a o t (x.keep a o t h n) fun m => ?_
    rcases x.fre a m with z | z
    · exact n z
    · rw [h] at z; cases z
  live := fun a h => x.live a (y.live a h)
  fre := fun a m => by
    rcases y.fre a m with z | z
    · exact x.fre a z
    · exact .inr (x.live a z)

/-- the memory alone (a callee's) -/
abbrev MemS (C : Cn) (S : List D) (ρ : List Addr) (G H : Hp) : Prop := Mem C [] S ρ G H []
theorem Mem.toS {Γ : List Sl} {S : List D} {σ : L2.St} (m : Mem C Γ S ρ G H σ) : MemS C S ρ G H :=
  ⟨m.sub, fun i d h => by simp at h, fun i d h => by simp at h, fun i j d d' a h => by simp at h, m.sto, m.stG, m.len, m.nd, rfl, fun i x h => by simp at h⟩
/-- behind a step that knows nothing of the slots -/
theorem Mem.step {Γ : List Sl} {S S' : List D} {σ : L2.St} (m : Mem C Γ S ρ G H σ) (n : Nx ρ G H ρ' G' H') (m' : MemS C S' ρ' G' H') : Mem C Γ S' ρ' G' H' σ where
  sub := m'.sub
  val := fun i d h => by
    obtain ⟨v, e, r⟩ := m.val i d h
    exact ⟨v, e, r.mono n.ext n.pre⟩
  own := fun i d h => by
    obtain ⟨a, e, r, g, p⟩ := m.own i d h
    obtain ⟨o, ho⟩ := r.some
    refine ⟨a, e, r.mono n.ext n.pre fun o q => n.keep a o (fun ps z => r.plain.1 ps (by rw [q, z])) q p, ?_, fun z => ?_⟩
    · cases q : G' a with
      | none => rfl
      | some o' =>
        rcases n.new a o' q with z | z
        · rw [g] at z; cases z
        · rw [ho] at z; cases z
    · rcases n.fre a z with z | z
      · exact p z
      · rw [ho] at z; cases z
  inj := m.inj
  sto := m'.sto
  stG := m'.stG
  len := m'.len
  nd := m'.nd
  wid := m.wid
  xcp := fun i x h => ⟨(m.xcp i x h).1, (m.xcp i x h).2.mono n.ext n.pre⟩

/-! ### results -/
inductive Res (α : Type) where
  | ok (a : α) (S : List D)
  | exc (e : Exn) (S : List D)
  | stuck
def Res.bind {α β : Type} (r : Res α) (f : α → List D → Res β) : Res β := match r with
  | .ok a S => f a S
  | .exc e S => .exc e S
  | .stuck => .stuck
@[simp] theorem Res.bind_ok {α β : Type} (a : α) (S : List D) (f : α → List D → Res β) : (Res.ok a S).bind f = f a S := Eq.trans rfl rfl
@[simp] theorem Res.bind_exc {α β : Type} (e : Exn) (S : List D) (f : α → List D → Res β) : (Res.exc e S : Res α).bind f = .exc e S := Eq.trans rfl rfl
@[simp] theorem Res.bind_stuck {α β : Type} (f : α → List D → Res β) : (Res.stuck : Res α).bind f = .stuck := Eq.trans rfl rfl

abbrev De := List Sl → List D → Res D
abbrev Da := List Sl → List D → Res (List D)
abbrev Dt := List Sl → List D → Res Bool
inductive Out where
  | next (Γ : List Sl) (S : List D) | ret (d : D) (S : List D) | brk (Γ : List Sl) (S : List D) | cont (Γ : List Sl) (S : List D) | exc (e : Exn) (Γ : List Sl) (S : List D) | stuck
abbrev Ds := List Sl → List D → Out

/-- an exception as it lies -/
def ExRep (C : Cn) (ρ : List Addr) (G H : Hp) (e : Exn) (cls : Value) (dx : Option Addr) : Prop :=
  cls = .ref (C.cls (e.c + 3)) ∧ (e.fs = [] → dx = none) ∧ (e.fs ≠ [] → ∃ d vs, dx = some d ∧ G d = some (.xd (e.ns.zip vs)) ∧ e.ns.length = e.fs.length ∧ Reps C ρ G e.fs vs)

/-- what is wanted behind an evaluation (RV: how the value lies) -/
abbrev RVT (α β : Type) := Hp → List Addr → Hp → Hp → α → β → Prop
def Post (C : Cn) (W : WX) {α β : Type} (RV : RVT α β) (Γ : List Sl) (ρ : List Addr) (G H : Hp) (σ : L2.St) (r : Res α) (Q : β → Hp → Prop) : Prop := match r with
  | .ok d S' => ∀ v ρ' G' H', Mem C Γ S' ρ' G' H' σ → Nx ρ G H ρ' G' H' → RV H ρ' G' H' d v → Q v H'
  | .exc e S' => ∀ cls dx ρ' G' H', Mem C Γ S' ρ' G' H' σ → Nx ρ G H ρ' G' H' → ExRep C ρ' G' H' e cls dx → W cls dx σ H'
  | .stuck => False
/-- settled -/
def RS (C : Cn) : RVT D V := fun _ ρ G _ d v => Rep C ρ G d v
/-- readable: settled, or an object of a slot's own -/
def RO (C : Cn) : RVT D V := fun _ ρ G H d v => Rep C ρ G d v ∨ ∃ a, v = V.ref a ∧ a ∉ ρ ∧ ObAt C ρ G H a d
/-- new -/
def RF (C : Cn) : RVT D V := fun H0 ρ G H d v => ∃ a, v = V.ref a ∧ a ∉ ρ ∧ H0 a = none ∧ G a = none ∧ ObAt C ρ G H a d
def RB : RVT Bool Bool := fun _ _ _ _ b c => b = c
def RA (C : Cn) : RVT (List D) (List V) := fun _ ρ G _ ds vs => Reps C ρ G ds vs
/-- the start may lie further back -/
def Back {α β : Type} (RV : RVT α β) : Prop := ∀ (H0 H1 : Hp) ρ G H d v, (∀ a, H1 a = none → H0 a = none) → RV H1 ρ G H d v → RV H0 ρ G H d v
theorem back_RS : Back (RS C) := fun _ _ _ _ _ _ _ _ h => h
theorem back_RO : Back (RO C) := fun _ _ _ _ _ _ _ _ h => h
theorem back_RF : Back (RF C) := fun _ _ _ _ _ _ _ k ⟨a, e, n, z, r⟩ => ⟨a, e, n, k a z, r⟩
theorem back_RB : Back RB := fun _ _ _ _ _ _ _ _ h => h
theorem back_RA : Back (RA C) := fun _ _ _ _ _ _ _ _ h => h

section
variable {W : WX} {α β γ δ : Type} {RV : RVT α β} {RV2 : RVT γ δ} {Γ : List Sl} {S : List D} {σ : L2.St}
theorem Post.mono {r : Res α} {Q Q' : β → Hp → Prop} (h : Post C W RV Γ ρ G H σ r Q) (q : ∀ v H', Q v H' → Q' v H') : Post C W RV Γ ρ G H σ r Q' := by
  cases r with
  | ok d S => exact fun v ρ' G' H' a b c => q _ _ (h v ρ' G' H' a b c)
  | exc e S => exact h
  | stuck => exact h
theorem Post.conv {RV' : RVT α β} {r : Res α} {Q : β → Hp → Prop} (h : Post C W RV' Γ ρ G H σ r Q) (c : ∀ ρ' G' H' d v, RV H ρ' G' H' d v → RV' H ρ' G' H' d v) : Post C W RV Γ ρ G H σ r Q := by
  cases r with
  | ok d S => exact fun v ρ' G' H' a b z => h v ρ' G' H' a b (c _ _ _ _ _ z)
  | exc e S => exact h
  | stuck => exact h
theorem Post.shift (bk : Back RV) {r : Res α} {Q : β → Hp → Prop} (h : Post C W RV Γ ρ G H σ r Q) {ρ1 : List Addr} {G1 H1 : Hp} (n : Nx ρ G H ρ1 G1 H1) : Post C W RV Γ ρ1 G1 H1 σ r Q := by
  cases r with
  | ok d S => exact fun v ρ' G' H' a b c => h v ρ' G' H' a (n.trans b) (bk _ _ _ _ _ _ _ n.live c)
  | exc e S => exact fun cls dx ρ' G' H' a b c => h cls dx ρ' G' H' a (n.trans b) c
  | stuck => exact h
/-- one evaluation ahead of another -/
theorem Post.seq (bk : Back RV2) {r : Res α} {f : α → List D → Res γ} {Q : δ → Hp → Prop} (h : Post C W RV2 Γ ρ G H σ (r.bind f) Q) :
    Post C W RV Γ ρ G H σ r (fun v H1 => ∃ d S1 ρ1 G1, Mem C Γ S1 ρ1 G1 H1 σ ∧ Nx ρ G H ρ1 G1 H1 ∧ RV H ρ1 G1 H1 d v ∧ Post C W RV2 Γ ρ1 G1 H1 σ (f d S1) Q) := by
  cases r with
  | ok d S => exact fun v ρ1 G1 H1 m n c => ⟨d, S, ρ1, G1, m, n, c, Post.shift bk h n⟩
  | exc e S => exact h
  | stuck => exact h
/-- an evaluation's end -/
theorem Post.here {d : α} {v : β} {Q : β → Hp → Prop} (h : Post C W RV Γ ρ G H σ (.ok d S) Q) {ρ' : List Addr} {G' H' : Hp} (m : Mem C Γ S ρ' G' H' σ) (n : Nx ρ G H ρ' G' H') (c : RV H ρ' G' H' d v) : Q v H' := h v ρ' G' H' m n c
theorem Post.at {d : α} {v : β} {Q : β → Hp → Prop} (h : Post C W RV Γ ρ G H σ (.ok d S) Q) (m : Mem C Γ S ρ G H σ) (c : RV H ρ G H d v) : Q v H := h v ρ G H m .refl c
end

/-! ### an expression by what it evaluates to -/
def tE (C : Cn) (W : WX) (RV : RVT D V) (δ : De) : TE := fun σ H Q => ∃ Γ S ρ G, Mem C Γ S ρ G H σ ∧ Post C W RV Γ ρ G H σ (δ Γ S) Q
def tT (C : Cn) (W : WX) (δ : Dt) : TT := fun σ H Q => ∃ Γ S ρ G, Mem C Γ S ρ G H σ ∧ Post C W RB Γ ρ G H σ (δ Γ S) Q
def tA (C : Cn) (W : WX) (δ : Da) : TA := fun σ H Q => ∃ Γ S ρ G, Mem C Γ S ρ G H σ ∧ Post C W (RA C) Γ ρ G H σ (δ Γ S) Q
def DE (X : Cx) (cls : Nat → Addr) (W : WX) (e : Expr) (δ : De) : Prop := PE X e (tE ⟨X.K, cls⟩ W (RS ⟨X.K, cls⟩) δ)
def DO (X : Cx) (cls : Nat → Addr) (W : WX) (e : Expr) (δ : De) : Prop := PE X e (tE ⟨X.K, cls⟩ W (RO ⟨X.K, cls⟩) δ)
def DF (X : Cx) (cls : Nat → Addr) (W : WX) (e : Expr) (δ : De) : Prop := PE X e (tE ⟨X.K, cls⟩ W (RF ⟨X.K, cls⟩) δ)
def DT (X : Cx) (cls : Nat → Addr) (W : WX) (e : Expr) (δ : Dt) : Prop := PT X e (tT ⟨X.K, cls⟩ W δ)
def DW (X : Cx) (cls : Nat → Addr) (W : WX) (e : Expr) (δ : Dt) : Prop := PW X e (tT ⟨X.K, cls⟩ W δ)
def DA (X : Cx) (cls : Nat → Addr) (W : WX) (es : List Expr) (δ : Da) : Prop := PA X es (tA ⟨X.K, cls⟩ W δ)

theorem PE.weak {X : Cx} {e : Expr} {t t' : TE} (h : PE X e t) (i : ∀ σ H Q, t' σ H Q → t σ H Q) : PE X e t' := ⟨fun pins s σ H Q I h' => h.run pins s σ H Q I (i σ H Q h')⟩
theorem PT.weak {X : Cx} {e : Expr} {t t' : TT} (h : PT X e t) (i : ∀ σ H Q, t' σ H Q → t σ H Q) : PT X e t' := ⟨fun pins s σ H Q I h' => h.run pins s σ H Q I (i σ H Q h')⟩
theorem PW.weak {X : Cx} {e : Expr} {t t' : TT} (h : PW X e t) (i : ∀ σ H Q, t' σ H Q → t σ H Q) : PW X e t' := ⟨fun w pins s σ H Q I h' => h.run w pins s σ H Q I (i σ H Q h')⟩
theorem PA.weak {X : Cx} {e : List Expr} {t t' : TA} (h : PA X e t) (i : ∀ σ H Q, t' σ H Q → t σ H Q) : PA X e t' := ⟨fun p pins s σ H Q I h' => h.run p pins s σ H Q I (i σ H Q h')⟩
theorem PS.weak {X : Cx} {e : Stmt} {t t' : TS} (h : PS X e t) (i : ∀ D σ H, t' D σ H → t D σ H) : PS X e t' := ⟨fun pins s σ H D I h' => h.run pins s σ H D I (i D σ H h')⟩
theorem PSs.weak {X : Cx} {e : List Stmt} {t t' : TS} (h : PSs X e t) (i : ∀ D σ H, t' D σ H → t D σ H) : PSs X e t' := ⟨fun pins s σ H D I h' => h.run pins s σ H D I (i D σ H h')⟩

/-! ### reading -/
def deref (S : List D) : D → D
  | .ptr k => match S[k]? with | some d => d | none => .ptr k
  | d => d
/-- how a value reads at the heap -/
def RT (C : Cn) (ρ : List Addr) (G H : Hp) (d : D) (v : V) : Prop := match d with
  | .lst xs => ∃ a vs, v = V.ref a ∧ H a = some (.lst vs) ∧ Reps C ρ G xs vs
  | .dct ks xs => ∃ a vs, v = V.ref a ∧ Rd H a (.dK (ks.zip vs)) ∧ ks.length = xs.length ∧ Reps C ρ G xs vs
  | .ins c ns xs => ∃ a dx vs, v = V.ref a ∧ H a = some (.ins (C.cls (c + 3)) dx (ns.zip vs)) ∧ ns.length = xs.length ∧ Reps C ρ G xs vs
  | d => Rep C ρ G d v
theorem ObAt.rt {a : Addr} : ∀ {d : D}, ObAt C ρ G H a d → RT C ρ G H d (V.ref a)
  | .lst xs, ⟨vs, h, r⟩ => ⟨a, vs, rfl, h, r⟩
  | .dct ks xs, ⟨vs, h, l, r⟩ => ⟨a, vs, rfl, .inl h, l, r⟩
  | .ins c ns xs, ⟨dx, vs, h, l, r⟩ => ⟨a, dx, vs, rfl, h, l, r⟩
theorem Rep.rt (e : SubH C G H) : ∀ {d : D} {v : V}, Rep C ρ G d v → RT C ρ G H d v
  | .non, _, h => h
  | .bl _, _, h => h
  | .int _, _, h => h
  | .str _, _, h => h
  | .tup _, _, h => h
  | .ptr _, _, h => h
  | .scr _, _, h => h
  | .lst xs, _, h => by
    rw [Rep] at h
    obtain ⟨a, vs, rfl, h1, h2⟩ := h
    exact ⟨a, vs, rfl, e.lst h1, h2⟩
  | .dct ks xs, _, h => by
    rw [Rep] at h
    obtain ⟨a, vs, rfl, h1, l, h2⟩ := h
    exact ⟨a, vs, rfl, e.dk h1, l, h2⟩
  | .ins c ns xs, _, h => by
    rw [Rep] at h
    obtain ⟨a, dx, vs, rfl, h1, l, h2⟩ := h
    exact ⟨a, dx, vs, rfl, e.get h1 (fun _ z => nomatch z), l, h2⟩
theorem Mem.read {Γ : List Sl} {S : List D} {σ : L2.St} {H0 : Hp} {d : D} {v : V} (m : Mem C Γ S ρ G H σ) (r : RO C H0 ρ G H d v) : RT C ρ G H (deref S d) v := by
  rcases r with r | ⟨a, rfl, n, r⟩
  · cases d with
    | ptr k =>
      unfold deref
      rw [Rep] at r
      obtain ⟨a, h1, rfl⟩ := r
      have hk : k < S.length := by rw [← m.len]; exact (List.getElem?_eq_some_iff.mp h1).1
      obtain ⟨b, hb, r⟩ := m.sto k S[k] (List.getElem?_eq_getElem hk)
      rw [h1] at hb; cases hb
      show RT C ρ G H (match S[k]? with | some d => d | none => D.ptr k) (V.ref a)
      rw [List.getElem?_eq_getElem hk]
      exact r.rt
    | _ => exact r.rt m.sub
  · cases d with
    | lst _ => exact r.rt
    | dct _ _ => exact r.rt
    | ins _ _ _ => exact r.rt
    | _ => exact (show False from r).elim
/-- readable still, behind a step -/
theorem RO.step {H0 H1 : Hp} {d : D} {v : V} (n : Nx ρ G H ρ' G' H') (r : RO C H0 ρ G H d v) : RO C H1 ρ' G' H' d v := by
  rcases r with r | ⟨a, rfl, na, r⟩
  · exact .inl (r.mono n.ext n.pre)
  · obtain ⟨o, ho⟩ := r.some
    refine .inr ⟨a, rfl, fun z => ?_, r.mono n.ext n.pre fun o q => n.keep a o (fun ps z => r.plain.1 ps (by rw [q, z])) q na⟩
    rcases n.fre a z with z | z
    · exact na z
    · rw [ho] at z; cases z

section
variable {v : V}
theorem rep_non : Rep C ρ G .non v ↔ v = .non := by rw [Rep]
theorem rep_bl {b : Bool} : Rep C ρ G (.bl b) v ↔ v = .bl b := by rw [Rep]
theorem rep_int {b : Int} : Rep C ρ G (.int b) v ↔ v = .int b := by rw [Rep]
theorem rep_str {b : Str} : Rep C ρ G (.str b) v ↔ v = .str b := by rw [Rep]
theorem rep_tup {xs : List D} : Rep C ρ G (.tup xs) v ↔ ∃ a vs, v = V.ref a ∧ SqT C.K G a vs ∧ Reps C ρ G xs vs := by rw [Rep]
theorem rep_lst {xs : List D} : Rep C ρ G (.lst xs) v ↔ ∃ a vs, v = V.ref a ∧ G a = some (.lst vs) ∧ Reps C ρ G xs vs := by rw [Rep]
theorem rep_ptr {i : Nat} : Rep C ρ G (.ptr i) v ↔ ∃ a, ρ[i]? = some a ∧ v = V.ref a := by rw [Rep]
theorem rep_scr {ns : List Int} : Rep C ρ G (.scr ns) v ↔ ∃ a, v = V.ref a ∧ SqL C.K G a (ns.map V.int) := by rw [Rep]
theorem rt_non : RT C ρ G H .non v ↔ v = .non := rep_non (C := C) (ρ := ρ) (G := G)
theorem rt_bl {b : Bool} : RT C ρ G H (.bl b) v ↔ v = .bl b := rep_bl (C := C) (ρ := ρ) (G := G)
theorem rt_int {b : Int} : RT C ρ G H (.int b) v ↔ v = .int b := rep_int (C := C) (ρ := ρ) (G := G)
theorem rt_str {b : Str} : RT C ρ G H (.str b) v ↔ v = .str b := rep_str (C := C) (ρ := ρ) (G := G)
theorem rt_tup {xs : List D} : RT C ρ G H (.tup xs) v ↔ ∃ a vs, v = V.ref a ∧ SqT C.K G a vs ∧ Reps C ρ G xs vs := rep_tup (C := C) (ρ := ρ) (G := G)
theorem rt_ptr {i : Nat} : RT C ρ G H (.ptr i) v ↔ ∃ a, ρ[i]? = some a ∧ v = V.ref a := rep_ptr (C := C) (ρ := ρ) (G := G)
theorem rt_scr {ns : List Int} : RT C ρ G H (.scr ns) v ↔ ∃ a, v = V.ref a ∧ SqL C.K G a (ns.map V.int) := rep_scr (C := C) (ρ := ρ) (G := G)
end
/-! ### a new object -/
theorem Mem.new {Γ : List Sl} {S : List D} {σ : L2.St} {p : Addr} {o : HO} (m : Mem C Γ S ρ G H σ) (hp : H p = none) : Mem C Γ S ρ G (upd H p o) σ ∧ Nx ρ G H ρ G (upd H p o) ∧ p ∉ ρ ∧ G p = none := by
  have gp : G p = none := m.sub.gone hp
  have k : Sub H (upd H p o) := fun a u h => by rw [upd_ne (ne_of_none h hp)]; exact h
  have np : p ∉ ρ := fun z => by
    obtain ⟨i, hi⟩ := List.mem_iff_getElem?.mp z
    have hi2 : i < S.length := by rw [← m.len]; exact (List.getElem?_eq_some_iff.mp hi).1
    obtain ⟨a, ha, r⟩ := m.sto i S[i] (List.getElem?_eq_getElem hi2)
    rw [hi] at ha; cases ha
    obtain ⟨o, ho⟩ := r.some
    rw [ho] at hp; cases hp
  have n : Nx ρ G H ρ G (upd H p o) := ⟨List.prefix_refl _, .refl, fun _ _ h => .inl h, fun a u _ h _ => k a u h, fun a h => by
    by_cases e : a = p
    · subst e; exact hp
    · rw [upd_ne e] at h; exact h, fun _ h => .inl h⟩
  exact ⟨⟨m.sub.upd gp (noTE_of hp), m.val, fun i d h => by
    obtain ⟨a, e, r, g, q⟩ := m.own i d h
    exact ⟨a, e, r.mono .refl (List.prefix_refl _) fun o h => k _ _ h, g, q⟩, m.inj, fun i d h => by
    obtain ⟨a, e, r⟩ := m.sto i d h
    exact ⟨a, e, r.mono .refl (List.prefix_refl _) fun o h => k _ _ h⟩, m.stG, m.len, m.nd, m.wid, m.xcp⟩, n, np, gp⟩
/-- what is new is settled -/
theorem Mem.settle {Γ : List Sl} {S S' : List D} {σ : L2.St} {p : Addr} {o : HO} {ρ0 : List Addr} {G0 H0 : Hp} (m0 : Mem C Γ S ρ0 G0 H0 σ) (n : Nx ρ0 G0 H0 ρ G H) (m : Mem C Γ S' ρ G H σ) (h0 : H0 p = none) (hg : G p = none) (hp : p ∉ ρ) (ho : H p = some o) :
    Mem C Γ S' ρ (upd G p o) H σ ∧ Nx ρ0 G0 H0 ρ (upd G p o) H ∧ Sub G (upd G p o) := by
  have k : Sub G (upd G p o) := fun a u h => by rw [upd_ne (ne_of_none h hg)]; exact h
  refine ⟨⟨m.sub.put ho, fun i d h => ?_, fun i d h => ?_, m.inj, fun i d h => ?_, fun a h => ?_, m.len, m.nd, m.wid, fun i x h => ⟨(m.xcp i x h).1, (m.xcp i x h).2.mono k (List.prefix_refl _)⟩⟩, ⟨n.pre, n.ext.trans k, fun a u h => ?_, n.keep, n.live, n.fre⟩, k⟩
  · obtain ⟨v, e, r⟩ := m.val i d h
    exact ⟨v, e, r.mono k (List.prefix_refl _)⟩
  · obtain ⟨a, e, r, g, q⟩ := m.own i d h
    obtain ⟨a0, e0, r0, _, _⟩ := m0.own i d h
    rw [e] at e0; cases e0
    obtain ⟨u, hu⟩ := r0.some
    have ne : a ≠ p := fun z => by rw [z, h0] at hu; cases hu
    exact ⟨a, e, r.mono k (List.prefix_refl _) fun _ h => h, by rw [upd_ne ne]; exact g, q⟩
  · obtain ⟨a, e, r⟩ := m.sto i d h
    exact ⟨a, e, r.mono k (List.prefix_refl _) fun _ h => h⟩
  · rw [upd_ne (fun z => hp (by rw [← z]; exact h))]; exact m.stG a h
  · by_cases e : a = p
    · subst e; exact .inr h0
    · rw [upd_ne e] at h; exact n.new a u h
theorem RF.settle {Γ : List Sl} {S S' : List D} {σ : L2.St} {ρ0 : List Addr} {G0 H0 : Hp} {d : D} {v : V} (m0 : Mem C Γ S ρ0 G0 H0 σ) (n : Nx ρ0 G0 H0 ρ G H) (m : Mem C Γ S' ρ G H σ) (r : RF C H0 ρ G H d v) :
    ∃ G', Mem C Γ S' ρ G' H σ ∧ Nx ρ0 G0 H0 ρ G' H ∧ Rep C ρ G' d v := by
  obtain ⟨a, rfl, na, h0, hg, r⟩ := r
  obtain ⟨o, ho⟩ := r.some
  obtain ⟨m', n', k⟩ := Mem.settle m0 n m h0 hg na ho
  refine ⟨_, m', n', ObAt.rep ?_⟩
  refine r.mono k (List.prefix_refl _) fun u hu => ?_
  rw [ho] at hu; cases hu
  exact upd_same
end
end DL

namespace DL
open PySem L2

/-! ### operations on data -/
mutual
def toPy : D → Option PyData
  | .non => some .none
  | .bl b => some (.bool b)
  | .int i => some (.int i)
  | .str x => some (.str x)
  | .lst xs => (toPys xs).map .list
  | .tup xs => (toPys xs).map .tuple
  | .dct _ _ => none
  | .ins _ _ _ => none
  | .ptr _ => none
  | .scr _ => none
def toPys : List D → Option (List PyData)
  | [] => some []
  | x :: xs => (toPy x).bind fun p => (toPys xs).map fun q => p :: q
end
section
variable {C : Cn} {ρ : List Addr} {G H : Hp}
mutual
theorem dp_of (e : SubH C G H) : ∀ (d : D) (v : V) (p : PyData), Rep C ρ G d v → toPy d = some p → Dp C.K H v p
  | .non, _, _, h, k => by rw [Rep] at h; rw [toPy] at k; cases k; subst h; exact .non
  | .bl _, _, _, h, k => by rw [Rep] at h; rw [toPy] at k; cases k; subst h; exact .bl _
  | .int _, _, _, h, k => by rw [Rep] at h; rw [toPy] at k; cases k; subst h; exact .int _
  | .str _, _, _, h, k => by rw [Rep] at h; rw [toPy] at k; cases k; subst h; exact .str _
  | .lst xs, _, p, h, k => by
    rw [Rep] at h
    obtain ⟨a, vs, rfl, h1, h2⟩ := h
    rw [toPy] at k
    cases q : toPys xs with
    | none => rw [q] at k; cases k
    | some ps =>
      rw [q] at k; cases k
      exact .lst (SqL.of (e.lst h1)) (dps_of e xs vs ps h2 q)
  | .tup xs, _, p, h, k => by
    rw [Rep] at h
    obtain ⟨a, vs, rfl, h1, h2⟩ := h
    rw [toPy] at k
    cases q : toPys xs with
    | none => rw [q] at k; cases k
    | some ps =>
      rw [q] at k; cases k
      exact .tup (e.sqT h1) (dps_of e xs vs ps h2 q)
  | .dct _ _, _, _, _, k => by rw [toPy] at k; cases k
  | .ins _ _ _, _, _, _, k => by rw [toPy] at k; cases k
  | .ptr _, _, _, _, k => by rw [toPy] at k; cases k
  | .scr _, _, _, _, k => by rw [toPy] at k; cases k
theorem dps_of (e : SubH C G H) : ∀ (ds : List D) (vs : List V) (ps : List PyData), Reps C ρ G ds vs → toPys ds = some ps → DpAll C.K H vs ps
  | [], _, _, h, k => by rw [h.inv0]; rw [toPys] at k; cases k; exact .nil
  | x :: xs, _, ps, h, k => by
    obtain ⟨v, r, rfl, h1, h2⟩ := h.inv
    rw [toPys] at k
    cases q : toPy x with
    | none => rw [q] at k; cases k
    | some p =>
      cases q2 : toPys xs with
      | none => rw [q, q2] at k; cases k
      | some ps' =>
        rw [q, q2] at k; cases k
        exact .cons (dp_of e x v p h1 q) (dps_of e xs r ps' h2 q2)
end
theorem dp_rt (e : SubH C G H) {d : D} {v : V} {p : PyData} (h : RT C ρ G H d v) (k : toPy d = some p) : Dp C.K H v p := by
  cases d with
  | lst xs =>
    obtain ⟨a, vs, rfl, h1, h2⟩ := h
    rw [toPy] at k
    cases q : toPys xs with
    | none => rw [q] at k; cases k
    | some ps =>
      rw [q] at k; cases k
      exact .lst (SqL.of h1) (dps_of e xs vs ps h2 q)
  | dct _ _ => rw [toPy] at k; cases k
  | ins _ _ _ => rw [toPy] at k; cases k
  | _ => exact dp_of e _ _ _ h k
end

def dEqP (a b : D) : Option Bool := match toPy a, toPy b with
  | some p, some q => if p.canLay0 = true ∧ q.canLay0 = true ∧ min p.depth q.depth ≤ 64 then some (PyData.eqv p q) else none
  | _, _ => none
def dEq : D → D → Option Bool
  | .str a, .str b => some (a == b)
  | a, b => dEqP a b
theorem dEq_cases (a b : D) : (∃ x y, a = .str x ∧ b = .str y ∧ dEq a b = some (x == y)) ∨ dEq a b = dEqP a b := by
  cases a <;> first | exact .inr rfl | (cases b <;> first | exact .inr rfl | exact .inl ⟨_, _, rfl, rfl, rfl⟩)
def cEq (a b : D) : Option D := (dEq a b).map .bl
def cNe (a b : D) : Option D := (dEq a b).map fun k => .bl (!k)
def cLt : D → D → Option D
  | .int i, .int j => some (.bl (decide (i < j)))
  | .str i, .str j => some (.bl (decide (i.cps.toList < j.cps.toList)))
  | _, _ => none
def cLe : D → D → Option D
  | .int i, .int j => some (.bl (decide (i ≤ j)))
  | .str i, .str j => some (.bl (!decide (j.cps.toList < i.cps.toList)))
  | _, _ => none
def cGt : D → D → Option D
  | .int i, .int j => some (.bl (decide (j < i)))
  | .str i, .str j => some (.bl (decide (j.cps.toList < i.cps.toList)))
  | _, _ => none
def cGe : D → D → Option D
  | .int i, .int j => some (.bl (decide (j ≤ i)))
  | .str i, .str j => some (.bl (!decide (i.cps.toList < j.cps.toList)))
  | _, _ => none
def isNon : D → Bool | .non => true | _ => false
def cIs : D → D → Option D | a, .non => some (.bl (isNon a)) | _, _ => none
def cIsNot : D → D → Option D | a, .non => some (.bl (!isNon a)) | _, _ => none
def dAdd : D → D → Option D
  | .int i, .int j => some (.int (i + j))
  | .str a, .str b => if a.length + b.length ≤ sizeLine then some (.str (a ++ b)) else none
  | .lst a, .lst b => if a.length + b.length ≤ sizeLine then some (.lst (a ++ b)) else none
  | .tup a, .tup b => if a.length + b.length ≤ sizeLine then some (.tup (a ++ b)) else none
  | _, _ => none
def dSub : D → D → Option D
  | .int i, .int j => some (.int (i - j))
  | _, _ => none
def mulOk (i j : Int) : Prop := (-(2 ^ 64) < i ∧ i < 2 ^ 64) ∨ (-(2 ^ 64) < j ∧ j < 2 ^ 64)
instance (i j : Int) : Decidable (mulOk i j) := by unfold mulOk; infer_instance
def dMul : D → D → Option D
  | .int i, .int j => if mulOk i j then some (.int (i * j)) else none
  | .lst xs, .int k => if -(2 ^ 63) ≤ k ∧ k < 2 ^ 63 ∧ xs.length * k.toNat ≤ sizeLine then some (.lst (List.replicate k.toNat xs).flatten) else none
  | .tup xs, .int k => if 1 ≤ k ∧ k ≤ 1000 ∧ xs.length ≤ 1000 then some (.tup (List.replicate k.toNat xs).flatten) else none
  | _, _ => none
def dDiv : D → D → Option D
  | .int i, .int j => if 0 < j ∧ j < 1073741824 then some (.int (i / j)) else none
  | _, _ => none
def dMod : D → D → Option D
  | .int i, .int j => if 0 < j then some (.int (i % j)) else none
  | _, _ => none
def dPow : D → D → Option D
  | .int i, .int j => if 0 ≤ j ∧ j ≤ 1000000 ∧ i.natAbs < 2 ^ 64 then some (.int (i ^ j.toNat)) else none
  | _, _ => none
def dNeg : D → Option D
  | .int i => some (.int (-i))
  | _ => none
def keyD : D → Option Key
  | .int i => some (.inl i)
  | .str x => some (.inr x)
  | _ => none
/-- the value of a key -/
def dGet : List Key → List D → Key → Option D
  | k :: ks, x :: xs, q => if k = q then some x else dGet ks xs q
  | _, _, _ => none
def dIdx : D → D → Option D
  | .lst xs, .int i => atI xs i
  | .tup xs, .int i => atI xs i
  | .scr ns, .int i => (atI ns i).map .int
  | .str x, .int i => if x.length ≤ sizeLine then (atI x.cps.toList i).map fun c => .str ⟨#[c]⟩ else none
  | _, _ => none
def dLen : D → Option D
  | .lst xs => some (.int xs.length)
  | .tup xs => some (.int xs.length)
  | .scr xs => some (.int xs.length)
  | .str x => if x.length ≤ sizeLine then some (.int x.length) else none
  | _ => none
def dTruth : D → Option Bool
  | .non => some false
  | .bl b => some b
  | .int i => some (i != 0)
  | .str x => if x.length ≤ sizeLine then some ((x.length : Int) != 0) else none
  | .lst xs => some !xs.isEmpty
  | .tup xs => some !xs.isEmpty
  | _ => none
/-- things that == compares at once -/
def flatD : D → Bool
  | .non | .bl _ | .int _ | .str _ => true
  | _ => false
def eqF : D → D → Bool
  | .non, .non => true
  | .bl a, .bl b => a == b
  | .bl a, .int j => (if a then 1 else 0) == j
  | .int i, .bl b => i == (if b then 1 else 0)
  | .int i, .int j => i == j
  | .str x, .str y => decide (x = y)
  | _, _ => false
def inF (x : D) (xs : List D) : Bool := xs.any fun y => eqF y x
def dIn : D → D → Option Bool
  | x, .lst xs => if flatD x ∧ xs.all flatD then some (inF x xs) else none
  | x, .tup xs => if flatD x ∧ xs.all flatD then some (inF x xs) else none
  | .str x, .str y => if x.length = 1 then some (decide (x.cps.getD 0 0 ∈ y.cps.toList)) else none
  | _, _ => none
def cIn (a b : D) : Option D := (dIn a b).map .bl
def cNotIn (a b : D) : Option D := (dIn a b).map fun k => .bl (!k)
def cutD (xs : List D) (lo hi : Option Int) : List D := (xs.drop (HT.sIx xs.length 0 lo)).take (HT.sIx xs.length xs.length hi - HT.sIx xs.length 0 lo)

/-! ### the forms of expressions -/
def eV (i : Nat) : De := fun Γ S => match Γ[i]? with | some (.val d) => .ok d S | _ => .stuck
def oV (i : Nat) : De := fun Γ S => match Γ[i]? with | some (.val d) => .ok d S | some (.own d) => .ok d S | _ => .stuck
def eC (d : D) : De := fun _ S => .ok d S
def ofO {α : Type} (o : Option α) (S : List D) : Res α := match o with | some d => .ok d S | none => .stuck
@[simp] theorem ofO_some {α : Type} (a : α) (S : List D) : ofO (some a) S = .ok a S := Eq.trans rfl rfl
@[simp] theorem ofO_none {α : Type} (S : List D) : ofO (none : Option α) S = .stuck := Eq.trans rfl rfl
def eOp (f : D → D → Option D) (a b : De) : De := fun Γ S => (a Γ S).bind fun x S1 => (b Γ S1).bind fun y S2 => ofO (f (deref S2 x) (deref S2 y)) S2
def eUn (f : D → Option D) (a : De) : De := fun Γ S => (a Γ S).bind fun x S1 => ofO (f (deref S1 x)) S1
def asB : D → Option Bool | .bl b => some b | _ => none
def tB (a : De) : Dt := fun Γ S => (a Γ S).bind fun x S1 => ofO (asB x) S1
def tTru (a : De) : Dt := fun Γ S => (a Γ S).bind fun x S1 => ofO (dTruth (deref S1 x)) S1
def tAndD (a b : Dt) : Dt := fun Γ S => (a Γ S).bind fun x S1 => if x then b Γ S1 else .ok false S1
def tOrD (a b : Dt) : Dt := fun Γ S => (a Γ S).bind fun x S1 => if x then .ok true S1 else b Γ S1
def tNotD (a : Dt) : Dt := fun Γ S => (a Γ S).bind fun x S1 => .ok (!x) S1
def eIf (t : Dt) (a b : De) : De := fun Γ S => (t Γ S).bind fun x S1 => if x then a Γ S1 else b Γ S1
def eAnd (a b : De) : De := fun Γ S => (a Γ S).bind fun x S1 => match asB x with | some true => b Γ S1 | some false => .ok (.bl false) S1 | none => .stuck
def eOr (a b : De) : De := fun Γ S => (a Γ S).bind fun x S1 => match asB x with | some true => .ok (.bl true) S1 | some false => b Γ S1 | none => .stuck
def eNot (a : De) : De := fun Γ S => (a Γ S).bind fun x S1 => match asB x with | some b => .ok (.bl (!b)) S1 | none => .stuck
def aNil : Da := fun _ S => .ok [] S
def aCons (a : De) (r : Da) : Da := fun Γ S => (a Γ S).bind fun x S1 => (r Γ S1).bind fun xs S2 => .ok (x :: xs) S2
def eCall (F : List D → List D → Res D) (a : Da) : De := fun Γ S => (a Γ S).bind fun ds S1 => F ds S1
def eTup (a : Da) : De := fun Γ S => (a Γ S).bind fun ds S1 => .ok (.tup ds) S1
def eLst (a : Da) : De := fun Γ S => (a Γ S).bind fun ds S1 => .ok (.lst ds) S1
/-- a list that is kept in the store -/
def eBox (a : De) : De := fun Γ S => (a Γ S).bind fun d S1 => .ok (.ptr S1.length) (S1 ++ [d])

section
variable {X : Cx} {cls : Nat → Addr} {W : WX} {e a b c : Expr} {es : List Expr} {pos : Pos} {δ δa δb δc : De} {τ τa τb : Dt} {α : Da}
theorem de_o (h : DE X cls W e δ) : DO X cls W e δ := PE.weak h fun σ H Q ⟨Γ, S, ρ, G, m, p⟩ => ⟨Γ, S, ρ, G, m, p.conv fun _ _ _ _ _ r => .inl r⟩
theorem df_o (h : DF X cls W e δ) : DO X cls W e δ := PE.weak h fun σ H Q ⟨Γ, S, ρ, G, m, p⟩ => ⟨Γ, S, ρ, G, m, p.conv fun _ _ _ _ _ ⟨a, e, n, _, _, r⟩ => .inr ⟨a, e, n, r⟩⟩
theorem df_e (h : DF X cls W e δ) : DE X cls W e δ := PE.weak h fun σ H Q ⟨Γ, S, ρ, G, m, p⟩ => ⟨Γ, S, ρ, G, m, by
  cases q : δ Γ S with
  | ok d S' =>
    rw [q] at p
    intro v ρ' G' H' m' n' r
    obtain ⟨G2, m2, n2, r2⟩ := RF.settle m n' m' r
    exact p v ρ' G2 H' m2 n2 r2
  | exc x S' => rw [q] at p; exact p
  | stuck => rw [q] at p; exact p⟩

theorem de_v (i : Nat) {x : Str} (hN : X.N[i]? = some x := by rfl) (hv : Vis X.env.scope x := by first | exact Or.inl rfl | exact Or.inr (Or.inl rfl) | exact Or.inr (Or.inr rfl)) (hd : (x == ("__debug__" : Str)) = false := by decide)
    (hcd : (x == ("__classdict__" : Str)) = false := by decide) : DE X cls W (.Name x pos) (eV i) := PE.weak (pv i hN hv hd hcd) fun σ H Q ⟨Γ, S, ρ, G, m, p⟩ => by
  unfold eV at p
  split at p
  · rename_i d hd
    obtain ⟨v, e, r⟩ := m.val i d hd
    exact ⟨v, e, p.at m r⟩
  · exact p.elim
theorem do_v (i : Nat) {x : Str} (hN : X.N[i]? = some x := by rfl) (hv : Vis X.env.scope x := by first | exact Or.inl rfl | exact Or.inr (Or.inl rfl) | exact Or.inr (Or.inr rfl)) (hd : (x == ("__debug__" : Str)) = false := by decide)
    (hcd : (x == ("__classdict__" : Str)) = false := by decide) : DO X cls W (.Name x pos) (oV i) := PE.weak (pv i hN hv hd hcd) fun σ H Q ⟨Γ, S, ρ, G, m, p⟩ => by
  unfold oV at p
  split at p
  · rename_i d hd
    obtain ⟨v, e, r⟩ := m.val i d hd
    exact ⟨v, e, p.at m (.inl r)⟩
  · rename_i d hd
    obtain ⟨a, e, r, _, na⟩ := m.own i d hd
    exact ⟨_, e, p.at m (.inr ⟨a, rfl, na, r⟩)⟩
  · exact p.elim
/-- a constant, or a name of the module -/
theorem de_c {v : V} {d : D} (h : PE X e (tC v)) (r : ∀ ρ G, Rep ⟨X.K, cls⟩ ρ G d v) : DE X cls W e (eC d) := PE.weak h fun σ H Q ⟨Γ, S, ρ, G, m, p⟩ => p.at m (r ρ G)
theorem de_int {i j} : DE X cls W (.Constant (.int i) j pos) (eC (.int i)) := de_c pe_int fun _ _ => by rw [Rep]
theorem de_bl {i j} : DE X cls W (.Constant (.bool i) j pos) (eC (.bl i)) := de_c pe_bl fun _ _ => by rw [Rep]
theorem de_non {j} : DE X cls W (.Constant .none j pos) (eC .non) := de_c pe_non fun _ _ => by rw [Rep]
theorem de_str {x j} : DE X cls W (.Constant (.str x) j pos) (eC (.str x)) := de_c pe_str fun _ _ => by rw [Rep]

/-- what an operation must do -/
def R2Ok (C : Cn) (RV : RVT D V) (R : R2) (f : D → D → Option D) : Prop := ∀ (S : List D) (ρ : List Addr) (G H : Hp) (x y : V) (d dx dy : D) (Q : VK), MemS C S ρ G H → RT C ρ G H dx x → RT C ρ G H dy y → f dx dy = some d →
  (∀ v ρ' G' H', MemS C S ρ' G' H' → Nx ρ G H ρ' G' H' → RV H ρ' G' H' d v → Q v H') → R x y H Q
def R1Ok (C : Cn) (RV : RVT D V) (R : V → Hp → VK → Prop) (f : D → Option D) : Prop := ∀ (S : List D) (ρ : List Addr) (G H : Hp) (x : V) (d dx : D) (Q : VK), MemS C S ρ G H → RT C ρ G H dx x → f dx = some d →
  (∀ v ρ' G' H', MemS C S ρ' G' H' → Nx ρ G H ρ' G' H' → RV H ρ' G' H' d v → Q v H') → R x H Q
theorem ofO_post {C : Cn} {W : WX} {α β : Type} {RV : RVT α β} {Γ : List Sl} {ρ : List Addr} {G H : Hp} {σ : L2.St} {o : Option α} {S : List D} {Q : β → Hp → Prop} (h : Post C W RV Γ ρ G H σ (ofO o S) Q) : ∃ d, o = some d ∧ Post C W RV Γ ρ G H σ (.ok d S) Q := by
  cases o with
  | none => exact h.elim
  | some d => exact ⟨d, rfl, h⟩
theorem x_op {RV : RVT D V} (bk : Back RV) {R : R2} {f : D → D → Option D} (ho : R2Ok ⟨X.K, cls⟩ RV R f) {σ : L2.St} {H : Hp} {Q : VK} (h : tE ⟨X.K, cls⟩ W RV (eOp f δa δb) σ H Q) :
    tE ⟨X.K, cls⟩ W (RO ⟨X.K, cls⟩) δa σ H fun x H1 => tE ⟨X.K, cls⟩ W (RO ⟨X.K, cls⟩) δb σ H1 fun y H2 => R x y H2 Q := by
  obtain ⟨Γ, S, ρ, G, m, p⟩ := h
  refine ⟨Γ, S, ρ, G, m, (Post.seq bk p).mono fun x H1 ⟨dx, S1, ρ1, G1, m1, n1, r1, p1⟩ => ⟨Γ, S1, ρ1, G1, m1, (Post.seq bk p1).mono fun y H2 ⟨dy, S2, ρ2, G2, m2, n2, r2, p2⟩ => ?_⟩⟩
  obtain ⟨d, hd, p3⟩ := ofO_post p2
  exact ho S2 ρ2 G2 H2 x y d _ _ Q m2.toS (m2.read (H0 := H1) (r1.step n2)) (m2.read r2) hd fun v ρ' G' H' m' n' r' => p3.here (m2.step n' m') n' r'
theorem de_op {op : Operator} {R : R2} {f : D → D → Option D} (ho : OpR X (binaryOp op) R) (hf : R2Ok ⟨X.K, cls⟩ (RS ⟨X.K, cls⟩) R f) (ha : DO X cls W a δa) (hb : DO X cls W b δb) : DE X cls W (.BinOp a op b pos) (eOp f δa δb) :=
  PE.weak (pe_op ho ha hb) fun _ _ _ h => x_op back_RS hf h
theorem df_op {op : Operator} {R : R2} {f : D → D → Option D} (ho : OpR X (binaryOp op) R) (hf : R2Ok ⟨X.K, cls⟩ (RF ⟨X.K, cls⟩) R f) (ha : DO X cls W a δa) (hb : DO X cls W b δb) : DF X cls W (.BinOp a op b pos) (eOp f δa δb) :=
  PE.weak (pe_op ho ha hb) fun _ _ _ h => x_op back_RF hf h
theorem de_cmp {op : CmpOp} {R : R2} {f : D → D → Option D} (ho : OpR X (compareOp op) R) (hf : R2Ok ⟨X.K, cls⟩ (RS ⟨X.K, cls⟩) R f) (ha : DO X cls W a δa) (hb : DO X cls W b δb) (hm : behindInMarks op b = false) : DE X cls W (.Compare a [op] [b] pos) (eOp f δa δb) :=
  PE.weak (pe_cmpR ho ha hb hm) fun _ _ _ h => x_op back_RS hf h
theorem dt_cmp {op : CmpOp} {R : R2} {f : D → D → Option D} (ho : OpR X (compareOp op) R) (hf : R2Ok ⟨X.K, cls⟩ (RS ⟨X.K, cls⟩) R f) (ha : DO X cls W a δa) (hb : DO X cls W b δb) (hm : behindInMarks op b = false) : DT X cls W (.Compare a [op] [b] pos) (tB (eOp f δa δb)) :=
  PT.weak (pt_cmpR ho ha hb hm) fun σ H Q ⟨Γ, S, ρ, G, m, p⟩ => by
    refine x_op (W := W) (δa := δa) (δb := δb) (cls := cls) back_RS hf ⟨Γ, S, ρ, G, m, (Post.seq back_RB p).mono fun v H1 ⟨d, S1, ρ1, G1, m1, n1, r1, p1⟩ => ?_⟩
    obtain ⟨k, hk, p2⟩ := ofO_post p1
    cases d <;> try cases hk
    have e : v = .bl k := rep_bl.mp r1
    exact ⟨k, e, p2.at m1 rfl⟩
theorem de_ix {R : R2} {f : D → D → Option D} (ho : IxR X R) (hf : R2Ok ⟨X.K, cls⟩ (RS ⟨X.K, cls⟩) R f) (ha : DO X cls W a δa) (hb : DO X cls W b δb) (hs : PlainIx b := by exact fun _ _ => rfl) : DE X cls W (.Subscript a b pos) (eOp f δa δb) :=
  PE.weak (pe_ix ho ha hb hs) fun _ _ _ h => x_op back_RS hf h
theorem x_un {RV : RVT D V} (bk : Back RV) {R : V → Hp → VK → Prop} {f : D → Option D} (ho : R1Ok ⟨X.K, cls⟩ RV R f) {σ : L2.St} {H : Hp} {Q : VK} (h : tE ⟨X.K, cls⟩ W RV (eUn f δa) σ H Q) :
    tE ⟨X.K, cls⟩ W (RO ⟨X.K, cls⟩) δa σ H fun x H1 => R x H1 Q := by
  obtain ⟨Γ, S, ρ, G, m, p⟩ := h
  refine ⟨Γ, S, ρ, G, m, (Post.seq bk p).mono fun x H1 ⟨dx, S1, ρ1, G1, m1, n1, r1, p1⟩ => ?_⟩
  obtain ⟨d, hd, p3⟩ := ofO_post p1
  exact ho S1 ρ1 G1 H1 x d _ Q m1.toS (m1.read r1) hd fun v ρ' G' H' m' n' r' => p3.here (m1.step n' m') n' r'
theorem de_un {op : UnaryOp} {R : V → Hp → VK → Prop} {f : D → Option D} (ho : UnR X (unaryOp op) R) (hf : R1Ok ⟨X.K, cls⟩ (RS ⟨X.K, cls⟩) R f) (ha : DO X cls W a δa) : DE X cls W (.UnaryOp op a pos) (eUn f δa) :=
  PE.weak (pe_un ho ha) fun _ _ _ h => x_un back_RS hf h
/-- a test that is a value's truth -/
theorem dt_tru (ha : DO X cls W a δa) (he : ∀ whole, isTrue a X.env whole = (do let v ← whole; standAt a.pos; holding [v] (truthy v)) := by intro _; rfl) : DT X cls W a (tTru δa) :=
  PT.weak (pt_truth ha he) fun σ H Q ⟨Γ, S, ρ, G, m, p⟩ => ⟨Γ, S, ρ, G, m, (Post.seq back_RB p).mono fun x H1 ⟨dx, S1, ρ1, G1, m1, n1, r1, p1⟩ => by
    obtain ⟨k, hk, p2⟩ := ofO_post p1
    refine ⟨k, ?_, p2.at m1 rfl⟩
    have rt := m1.read r1
    generalize deref S1 dx = dd at hk rt
    cases dd with
    | non => rw [rt_non] at rt; subst rt; exact (Option.some.inj hk).symm
    | bl b => rw [rt_bl] at rt; subst rt; exact (Option.some.inj hk).symm
    | int b => rw [rt_int] at rt; subst rt; exact (Option.some.inj hk).symm
    | str b =>
      rw [rt_str] at rt; subst rt
      rw [dTruth] at hk
      split at hk
      · rename_i hz; exact ⟨hz, (Option.some.inj hk).symm⟩
      · cases hk
    | lst xs =>
      obtain ⟨p, vs, rfl, h1, h2⟩ := rt
      refine .inl ⟨vs, SqL.of h1, ?_⟩
      rw [← Option.some.inj hk]
      have := h2.length
      cases xs <;> cases vs <;> simp_all
    | tup xs =>
      rw [rt_tup] at rt
      obtain ⟨p, vs, rfl, h1, h2⟩ := rt
      refine .inr (.inl ⟨vs, m1.sub.sqT h1, ?_⟩)
      rw [← Option.some.inj hk]
      have := h2.length
      cases xs <;> cases vs <;> simp_all
    | _ => cases hk⟩
theorem dt_val (ha : DE X cls W a δa) (he : ∀ whole, isTrue a X.env whole = (do let v ← whole; standAt a.pos; holding [v] (truthy v)) := by intro _; rfl) : DT X cls W a (tB δa) :=
  PT.weak (pt_val ha he) fun σ H Q ⟨Γ, S, ρ, G, m, p⟩ => ⟨Γ, S, ρ, G, m, (Post.seq back_RB p).mono fun x H1 ⟨dx, S1, ρ1, G1, m1, n1, r1, p1⟩ => by
    obtain ⟨k, hk, p2⟩ := ofO_post p1
    cases dx <;> try cases hk
    have e : x = .bl k := rep_bl.mp r1
    exact ⟨k, e, p2.at m1 rfl⟩⟩
/-! and, or, not in tests -/
theorem dw_t (h : DW X cls W e τ) : DT X cls W e τ := PW.pt h
theorem dw_and1 (ha : DT X cls W a τ) : DW X cls W (.BoolOp .And [a] pos) τ := pw_and1 ha
theorem dw_or1 (ha : DT X cls W a τ) : DW X cls W (.BoolOp .Or [a] pos) τ := pw_or1 ha
theorem dw_and {rest : List Expr} (ha : DT X cls W a τa) (hb : DW X cls W (.BoolOp .And (b :: rest) pos) τb) : DW X cls W (.BoolOp .And (a :: b :: rest) pos) (tAndD τa τb) :=
  PW.weak (pw_and ha hb) fun σ H Q ⟨Γ, S, ρ, G, m, p⟩ => ⟨Γ, S, ρ, G, m, (Post.seq (RV := RB) back_RB p).mono fun k H1 ⟨k', S1, ρ1, G1, m1, n1, r1, p1⟩ => by
    have e1 : k' = k := r1
    subst e1
    cases k' with
    | true => exact iteT ⟨Γ, S1, ρ1, G1, m1, p1⟩
    | false => exact iteF (p1.at m1 rfl)⟩
theorem dw_or {rest : List Expr} (ha : DT X cls W a τa) (hb : DW X cls W (.BoolOp .Or (b :: rest) pos) τb) : DW X cls W (.BoolOp .Or (a :: b :: rest) pos) (tOrD τa τb) :=
  PW.weak (pw_or ha hb) fun σ H Q ⟨Γ, S, ρ, G, m, p⟩ => ⟨Γ, S, ρ, G, m, (Post.seq (RV := RB) back_RB p).mono fun k H1 ⟨k', S1, ρ1, G1, m1, n1, r1, p1⟩ => by
    have e1 : k' = k := r1
    subst e1
    cases k' with
    | true => exact iteT (p1.at m1 rfl)
    | false => exact iteF ⟨Γ, S1, ρ1, G1, m1, p1⟩⟩
theorem dt_not (ha : DT X cls W a τ) : DT X cls W (.UnaryOp .Not a pos) (tNotD τ) :=
  PT.weak (pt_not ha) fun σ H Q ⟨Γ, S, ρ, G, m, p⟩ => ⟨Γ, S, ρ, G, m, (Post.seq (RV := RB) back_RB p).mono fun k H1 ⟨k', S1, ρ1, G1, m1, n1, r1, p1⟩ => by
    have e1 : k' = k := r1
    subst e1
    exact p1.at m1 rfl⟩
/-! and, or, not as values, of truth values -/
theorem de_one {op} (h : DE X cls W a δ) : DE X cls W (.BoolOp op [a] pos) δ := pe_one h
theorem de_and {rest : List Expr} (ha : DE X cls W a δa) (hb : DE X cls W (.BoolOp .And (b :: rest) pos) δb) : DE X cls W (.BoolOp .And (a :: b :: rest) pos) (eAnd δa δb) :=
  PE.weak (pe_and ha hb) fun σ H Q ⟨Γ, S, ρ, G, m, p⟩ => ⟨Γ, S, ρ, G, m, (Post.seq back_RS p).mono fun x H1 ⟨dx, S1, ρ1, G1, m1, n1, r1, p1⟩ => by
    cases dx with
    | bl k =>
      have e : x = .bl k := rep_bl.mp r1
      refine ⟨k, e, ?_⟩
      cases k with
      | true => exact iteT ⟨Γ, S1, ρ1, G1, m1, p1⟩
      | false => exact iteF (p1.at m1 (rep_bl.mpr rfl))
    | _ => exact p1.elim⟩
theorem de_or {rest : List Expr} (ha : DE X cls W a δa) (hb : DE X cls W (.BoolOp .Or (b :: rest) pos) δb) : DE X cls W (.BoolOp .Or (a :: b :: rest) pos) (eOr δa δb) :=
  PE.weak (pe_or ha hb) fun σ H Q ⟨Γ, S, ρ, G, m, p⟩ => ⟨Γ, S, ρ, G, m, (Post.seq back_RS p).mono fun x H1 ⟨dx, S1, ρ1, G1, m1, n1, r1, p1⟩ => by
    cases dx with
    | bl k =>
      have e : x = .bl k := rep_bl.mp r1
      refine ⟨k, e, ?_⟩
      cases k with
      | true => exact iteT (p1.at m1 (rep_bl.mpr rfl))
      | false => exact iteF ⟨Γ, S1, ρ1, G1, m1, p1⟩
    | _ => exact p1.elim⟩
theorem de_not (ha : DE X cls W a δa) : DE X cls W (.UnaryOp .Not a pos) (eNot δa) :=
  PE.weak (pe_not ha) fun σ H Q ⟨Γ, S, ρ, G, m, p⟩ => ⟨Γ, S, ρ, G, m, (Post.seq back_RS p).mono fun x H1 ⟨dx, S1, ρ1, G1, m1, n1, r1, p1⟩ => by
    cases dx with
    | bl k =>
      have e : x = .bl k := rep_bl.mp r1
      exact ⟨k, e, p1.at m1 (rep_bl.mpr rfl)⟩
    | _ => exact p1.elim⟩
theorem de_if (hc : DT X cls W c τ) (ha : DE X cls W a δa) (hb : DE X cls W b δb) : DE X cls W (.IfExp c a b pos) (eIf τ δa δb) :=
  PE.weak (pe_ifExp hc ha hb) fun σ H Q ⟨Γ, S, ρ, G, m, p⟩ => ⟨Γ, S, ρ, G, m, (Post.seq (RV := RB) back_RS p).mono fun k H1 ⟨k', S1, ρ1, G1, m1, n1, r1, p1⟩ => by
    have e1 : k' = k := r1
    subst e1
    cases k' with
    | true => exact iteT ⟨Γ, S1, ρ1, G1, m1, p1⟩
    | false => exact iteF ⟨Γ, S1, ρ1, G1, m1, p1⟩⟩
/-! arguments, displays -/
theorem da_nil : DA X cls W [] aNil := PA.weak pa_nil fun σ H Q ⟨Γ, S, ρ, G, m, p⟩ => p.at m Reps.nil
theorem da_cons (ha : DE X cls W e δ) (hr : DA X cls W es α) (hs : starEach (e :: es) X.env = (false, eval e X.env) :: starEach es X.env := by rfl) : DA X cls W (e :: es) (aCons δ α) :=
  PA.weak (pa_cons ha hr hs) fun σ H Q ⟨Γ, S, ρ, G, m, p⟩ => ⟨Γ, S, ρ, G, m, (Post.seq back_RA p).mono fun x H1 ⟨dx, S1, ρ1, G1, m1, n1, r1, p1⟩ => ⟨Γ, S1, ρ1, G1, m1, (Post.seq back_RA p1).mono fun xs H2 ⟨ds, S2, ρ2, G2, m2, n2, r2, p2⟩ =>
    p2.at m2 (Reps.cons (r1.mono n2.ext n2.pre) r2)⟩⟩
theorem da_len : ∀ {es : List Expr} {α : Da}, True := fun {_ _} => trivial
theorem x_new {C : Cn} {Γ : List Sl} {S : List D} {ρ : List Addr} {G H : Hp} {σ : L2.St} (m : Mem C Γ S ρ G H σ) {ds : List D} {vs : List V} (r : Reps C ρ G ds vs) {p : Addr} (hp : H p = none) :
    Mem C Γ S ρ G (upd H p (.lst vs)) σ ∧ Nx ρ G H ρ G (upd H p (.lst vs)) ∧ RF C H ρ G (upd H p (.lst vs)) (.lst ds) (V.ref p) := by
  obtain ⟨m', n', np, gp⟩ := m.new (o := .lst vs) hp
  exact ⟨m', n', p, rfl, np, hp, gp, vs, upd_same, r⟩
theorem x_newT {C : Cn} {Γ : List Sl} {S : List D} {ρ : List Addr} {G H : Hp} {σ : L2.St} (m : Mem C Γ S ρ G H σ) {ds : List D} {vs : List V} (r : Reps C ρ G ds vs) {p : Addr} (hp : H p = none) :
    ∃ G', Mem C Γ S ρ G' (upd H p (.tup vs)) σ ∧ Nx ρ G H ρ G' (upd H p (.tup vs)) ∧ Rep C ρ G' (.tup ds) (V.ref p) := by
  obtain ⟨m', n', np, gp⟩ := m.new (o := .tup vs) hp
  obtain ⟨m2, n2, k⟩ := Mem.settle m n' m' hp gp np upd_same
  exact ⟨_, m2, n2, by rw [Rep]; exact ⟨p, vs, rfl, SqT.of upd_same, Reps.mono k (List.prefix_refl _) _ _ r⟩⟩
theorem df_lst (h : DA X cls W es α) (hl : ∀ Γ S ds S', α Γ S = .ok ds S' → ds.length ≤ sizeLine) : DF X cls W (.List es pos) (eLst α) :=
  PE.weak (pe_lst h) fun σ H Q ⟨Γ, S, ρ, G, m, p⟩ => ⟨Γ, S, ρ, G, m, by
    unfold eLst at p
    cases q : α Γ S with
    | ok ds S1 =>
      rw [q] at p
      intro vs ρ1 G1 H1 m1 n1 r1
      refine ⟨by rw [← r1.length]; exact hl _ _ _ _ q, fun l hlp => ?_⟩
      obtain ⟨m2, n2, r2⟩ := x_new m1 r1 hlp
      exact p _ _ _ _ m2 (n1.trans n2) (back_RF _ _ _ _ _ _ _ n1.live r2)
    | exc x S1 => rw [q] at p; exact p
    | stuck => rw [q] at p; exact p⟩
theorem de_tup {x1} (h : DA X cls W es α) (hl : ∀ Γ S ds S', α Γ S = .ok ds S' → ds.length ≤ sizeLine) : DE X cls W (.Tuple es x1 pos) (eTup α) :=
  PE.weak (pe_tup h) fun σ H Q ⟨Γ, S, ρ, G, m, p⟩ => ⟨Γ, S, ρ, G, m, by
    unfold eTup at p
    cases q : α Γ S with
    | ok ds S1 =>
      rw [q] at p
      intro vs ρ1 G1 H1 m1 n1 r1
      refine ⟨by rw [← r1.length]; exact hl _ _ _ _ q, fun l hlp => ?_⟩
      obtain ⟨G2, m2, n2, r2⟩ := x_newT m1 r1 hlp
      exact p _ _ _ _ m2 (n1.trans n2) r2
    | exc x S1 => rw [q] at p; exact p
    | stuck => rw [q] at p; exact p⟩
/-- the number of written arguments -/
inductive ALen : Da → Nat → Prop
  | nil : ALen aNil 0
  | cons {δ : De} {α : Da} {n : Nat} (h : ALen α n) : ALen (aCons δ α) (n + 1)
theorem ALen.le {α : Da} {n : Nat} (h : ALen α n) : ∀ Γ S ds S', α Γ S = .ok ds S' → ds.length = n := by
  induction h with
  | nil => intro Γ S ds S' e; cases e; rfl
  | @cons δ α n h ih =>
    intro Γ S ds S' e
    unfold aCons at e
    cases q : δ Γ S with
    | ok d S1 =>
      rw [q] at e
      cases q2 : α Γ S1 with
      | ok ds2 S2 =>
        simp only [Res.bind_ok, q2] at e
        cases e
        rw [List.length_cons, ih _ _ _ _ q2]
      | exc _ _ => simp only [Res.bind_ok, q2] at e; cases e
      | stuck => simp only [Res.bind_ok, q2] at e; cases e
    | exc _ _ => rw [q] at e; cases e
    | stuck => rw [q] at e; cases e
theorem ALen.line {α : Da} {n : Nat} (h : ALen α n) (hn : n ≤ 1000) : ∀ Γ S ds S', α Γ S = .ok ds S' → ds.length ≤ sizeLine := fun Γ S ds S' e => by
  rw [h.le _ _ _ _ e]; exact Nat.le_of_lt (small1000 hn)
end
end DL

namespace DL
open PySem L2

theorem R2Ok.or {C : Cn} {RV : RVT D V} {R R' : R2} {f f' g : D → D → Option D} (h : R2Ok C RV R f) (h' : R2Ok C RV R' f') (hg : ∀ a b d, g a b = some d → f a b = some d ∨ f' a b = some d) :
    R2Ok C RV (fun x y H Q => R x y H Q ∨ R' x y H Q) g := fun S ρ G H x y d dx dy Q m rx ry e q => by
  rcases hg _ _ _ e with e | e
  · exact .inl (h S ρ G H x y d dx dy Q m rx ry e q)
  · exact .inr (h' S ρ G H x y d dx dy Q m rx ry e q)

section
variable {X : Cx} {cls : Nat → Addr} {C : Cn}
/-! ### ints -/
def onI (P : Int → Int → Bool) (g : Int → Int → Int) : D → D → Option D
  | .int i, .int j => if P i j then some (.int (g i j)) else none
  | _, _ => none
theorem ok_I {Pr : Int → Int → Prop} {P : Int → Int → Bool} {g : Int → Int → Int} (h : ∀ i j, P i j = true → Pr i j) : R2Ok C (RS C) (rI Pr fun i j => .int (g i j)) (onI P g) := fun S ρ G H x y d dx dy Q m rx ry e q => by
  cases dx <;> try cases e
  rename_i i
  cases dy <;> try cases e
  rename_i j
  rw [rt_int] at rx ry
  subst rx ry
  simp only [onI] at e
  split at e
  · rename_i hp
    cases e
    exact ⟨i, j, rfl, rfl, h i j hp, q _ _ _ _ m .refl (rep_int.mpr rfl)⟩
  · cases e
theorem ok_I0 {g : Int → Int → Int} : R2Ok C (RS C) (rI0 fun i j => .int (g i j)) (onI (fun _ _ => true) g) := fun S ρ G H x y d dx dy Q m rx ry e q => by
  cases dx <;> try cases e
  rename_i i
  cases dy <;> try cases e
  rename_i j
  rw [rt_int] at rx ry
  subst rx ry
  exact ⟨i, j, rfl, rfl, q _ _ _ _ m .refl (rep_int.mpr rfl)⟩
/-! ### texts, lists, tuples put together -/
def onS : D → D → Option D
  | .str a, .str b => if a.length + b.length ≤ sizeLine then some (.str (a ++ b)) else none
  | _, _ => none
theorem ok_S : R2Ok C (RS C) (fun x y H Q => ∃ i j, x = .str i ∧ y = .str j ∧ i.length + j.length ≤ sizeLine ∧ Q (.str (i ++ j)) H) onS := fun S ρ G H x y d dx dy Q m rx ry e q => by
  cases dx <;> try cases e
  rename_i i
  cases dy <;> try cases e
  rename_i j
  rw [rt_str] at rx ry
  subst rx ry
  simp only [onS] at e
  split at e
  · rename_i hp
    cases e
    exact ⟨i, j, rfl, rfl, hp, q _ _ _ _ m .refl (rep_str.mpr rfl)⟩
  · cases e
def onL : D → D → Option D
  | .lst a, .lst b => if a.length + b.length ≤ sizeLine then some (.lst (a ++ b)) else none
  | _, _ => none
theorem ok_LF : R2Ok C (RF C) rCat onL := fun S ρ G H x y d dx dy Q m rx ry e q => by
  cases dx <;> try cases e
  rename_i xs
  cases dy <;> try cases e
  rename_i ys
  obtain ⟨a, vs, rfl, h1, r1⟩ := rx
  obtain ⟨b, ws, rfl, h2, r2⟩ := ry
  simp only [onL] at e
  split at e
  · rename_i hp
    cases e
    refine ⟨a, b, vs, ws, rfl, rfl, h1, h2, by rw [← r1.length, ← r2.length]; exact hp, fun p hp => ?_⟩
    obtain ⟨m2, n2, r⟩ := x_new m (r1.append r2) hp
    exact q _ _ _ _ m2 n2 r
  · cases e
theorem rf_rs {R : R2} {f : D → D → Option D} (h : R2Ok C (RF C) R f) : R2Ok C (RS C) R f := fun S ρ G H x y d dx dy Q m rx ry e q =>
  h S ρ G H x y d dx dy Q m rx ry e fun v ρ' G' H' m' n' r => by
    obtain ⟨G2, m2, n2, r2⟩ := RF.settle m n' m' r
    exact q _ _ _ _ m2 n2 r2
theorem rf_rs1 {R : V → Hp → VK → Prop} {f : D → Option D} (h : R1Ok C (RF C) R f) : R1Ok C (RS C) R f := fun S ρ G H x d dx Q m rx e q =>
  h S ρ G H x d dx Q m rx e fun v ρ' G' H' m' n' r => by
    obtain ⟨G2, m2, n2, r2⟩ := RF.settle m n' m' r
    exact q _ _ _ _ m2 n2 r2
def onT : D → D → Option D
  | .tup a, .tup b => if a.length + b.length ≤ sizeLine then some (.tup (a ++ b)) else none
  | _, _ => none
theorem ok_T : R2Ok C (RS C) (rCatA C.K) onT := fun S ρ G H x y d dx dy Q m rx ry e q => by
  cases dx <;> try cases e
  rename_i xs
  cases dy <;> try cases e
  rename_i ys
  rw [rt_tup] at rx ry
  obtain ⟨a, vs, rfl, h1, r1⟩ := rx
  obtain ⟨b, ws, rfl, h2, r2⟩ := ry
  simp only [onT] at e
  split at e
  · rename_i hp
    cases e
    refine ⟨a, b, vs, ws, rfl, rfl, m.sub.sqT h1, m.sub.sqT h2, by rw [← r1.length, ← r2.length]; exact hp, fun e0 => ?_, fun _ e0 => ?_, fun _ _ p hp => ?_⟩
    · subst e0
      have z := r1.length
      cases xs with
      | nil => exact q _ _ _ _ m .refl (rep_tup.mpr ⟨b, ws, rfl, h2, r2⟩)
      | cons _ _ => cases z
    · subst e0
      have z := r2.length
      cases ys with
      | nil => rw [List.append_nil] at q; exact q _ _ _ _ m .refl (rep_tup.mpr ⟨a, vs, rfl, h1, r1⟩)
      | cons _ _ => cases z
    · obtain ⟨G2, m2, n2, r⟩ := x_newT m (r1.append r2) hp
      exact q _ _ _ _ m2 n2 r
  · cases e
theorem dAdd_cases (a b d : D) (h : dAdd a b = some d) : onI (fun _ _ => true) (fun i j => i + j) a b = some d ∨ onS a b = some d ∨ onL a b = some d ∨ onT a b = some d := by
  cases a <;> cases b <;> first | exact .inl h | exact .inr (.inl h) | exact .inr (.inr (.inl h)) | exact .inr (.inr (.inr h)) | cases h
theorem de_add {W : WX} {a b : Expr} {pos : Pos} {δa δb : De} (ha : DO X cls W a δa) (hb : DO X cls W b δb) : DE X cls W (.BinOp a .Add b pos) (eOp dAdd δa δb) :=
  de_op (op_add.or (op_add_str.or (op_cat.or op_catA))) (ok_I0.or (g := dAdd) (f' := fun a b => if (onS a b).isSome then onS a b else if (onL a b).isSome then onL a b else onT a b) (ok_S.or (f' := fun a b => if (onL a b).isSome then onL a b else onT a b) ((rf_rs ok_LF).or (f' := onT) ok_T (fun a b d h => by
      by_cases z : (onL a b).isSome
      · rw [if_pos z] at h; exact .inl h
      · rw [if_neg z] at h; exact .inr h)) (fun a b d h => by
      by_cases z : (onS a b).isSome
      · rw [if_pos z] at h; exact .inl h
      · rw [if_neg z] at h; exact .inr h)) (fun a b d h => by
      rcases dAdd_cases a b d h with h | h | h | h
      · exact .inl h
      · exact .inr (by rw [h]; rfl)
      · exact .inr (by cases a <;> cases b <;> first | cases h | (show (if (Option.isSome none) = true then _ else if (onL _ _).isSome = true then _ else _) = _; rw [h]; rfl))
      · exact .inr (by cases a <;> cases b <;> first | cases h | (show (if (Option.isSome none) = true then _ else if (Option.isSome none) = true then _ else _) = _; exact h)))) ha hb
theorem df_cat {W : WX} {a b : Expr} {pos : Pos} {δa δb : De} (ha : DO X cls W a δa) (hb : DO X cls W b δb) : DF X cls W (.BinOp a .Add b pos) (eOp onL δa δb) := df_op op_cat ok_LF ha hb
theorem de_sub {W : WX} {a b : Expr} {pos : Pos} {δa δb : De} (ha : DO X cls W a δa) (hb : DO X cls W b δb) : DE X cls W (.BinOp a .Sub b pos) (eOp (onI (fun _ _ => true) fun i j => i - j) δa δb) := de_op op_sub ok_I0 ha hb
abbrev fDiv : D → D → Option D := onI (fun _ j => decide (0 < j ∧ j < 1073741824)) fun i j => i / j
abbrev fMod : D → D → Option D := onI (fun _ j => decide (0 < j)) fun i j => i % j
def fPow : D → D → Option D := onI (fun i j => decide (0 ≤ j ∧ j ≤ 1000000 ∧ i.natAbs < 2 ^ 64)) fun i j => i ^ j.toNat
def P18 : Int := 10 ^ 18
theorem fPow_18 : fPow (.int 10) (.int 18) = some (.int P18) := rfl
abbrev fMulI : D → D → Option D := onI (fun i j => decide (mulOk i j)) fun i j => i * j
abbrev fSub : D → D → Option D := onI (fun _ _ => true) fun i j => i - j
theorem de_div {W : WX} {a b : Expr} {pos : Pos} {δa δb : De} (ha : DO X cls W a δa) (hb : DO X cls W b δb) : DE X cls W (.BinOp a .FloorDiv b pos) (eOp fDiv δa δb) := de_op op_fdiv (ok_I fun i j h => of_decide_eq_true (p := 0 < j ∧ j < 1073741824) h) ha hb
theorem de_mod {W : WX} {a b : Expr} {pos : Pos} {δa δb : De} (ha : DO X cls W a δa) (hb : DO X cls W b δb) : DE X cls W (.BinOp a .Mod b pos) (eOp fMod δa δb) := de_op op_mod (ok_I fun i j h => of_decide_eq_true h) ha hb
theorem de_pow {W : WX} {a b : Expr} {pos : Pos} {δa δb : De} (ha : DO X cls W a δa) (hb : DO X cls W b δb) : DE X cls W (.BinOp a .Pow b pos) (eOp fPow δa δb) := de_op op_pow (ok_I fun i j h => of_decide_eq_true (p := 0 ≤ j ∧ j ≤ 1000000 ∧ i.natAbs < 2 ^ 64) h) ha hb
/-! ### times -/
def onLM : D → D → Option D
  | .lst xs, .int k => if -(2 ^ 63) ≤ k ∧ k < 2 ^ 63 ∧ xs.length * k.toNat ≤ sizeLine then some (.lst (List.replicate k.toNat xs).flatten) else none
  | _, _ => none
theorem ok_LM : R2Ok C (RF C) rRep onLM := fun S ρ G H x y d dx dy Q m rx ry e q => by
  cases dx <;> try cases e
  rename_i xs
  cases dy <;> try cases e
  rename_i k
  obtain ⟨a, vs, rfl, h1, r1⟩ := rx
  rw [rt_int] at ry
  subst ry
  simp only [onLM] at e
  split at e
  · rename_i hp
    cases e
    refine ⟨a, k, vs, rfl, rfl, h1, hp.1, hp.2.1, by rw [← r1.length]; exact hp.2.2, fun p hp => ?_⟩
    obtain ⟨m2, n2, r⟩ := x_new m (r1.rep _) hp
    exact q _ _ _ _ m2 n2 r
  · cases e
end
end DL

namespace DL
open PySem PySem.Spec PyProof.Rows L2

section
variable {X : Cx} {cls : Nat → Addr} {C : Cn} {W : WX} {a b c e : Expr} {pos : Pos} {δa δb δc δ : De}
/-- == of data, one of which is flat enough -/
def rEqW (K : PySem.W.Frag) : R2 := fun x y H Q => ∃ p q, Dp K H x p ∧ Dp K H y q ∧ p.canLay0 = true ∧ q.canLay0 = true ∧ min p.depth q.depth ≤ 64 ∧ Q (.bl (PyData.eqv p q)) H
def rNeW (K : PySem.W.Frag) : R2 := fun x y H Q => ∃ p q, Dp K H x p ∧ Dp K H y q ∧ p.canLay0 = true ∧ q.canLay0 = true ∧ min p.depth q.depth ≤ 64 ∧ Q (.bl (!PyData.eqv p q)) H
theorem op_eqW (hu : X.A.units + 64 < cLine) : OpR X (compareOp .Eq) (rEqW X.K) := fun pins s σ H x y v u Q I rx ry ⟨p, q, hp, hq, lp, lq, m, k⟩ => by
  obtain ⟨as, r1⟩ := Dp.reads I p x v hp rx
  obtain ⟨bs, r2⟩ := Dp.reads I q y u hq ry
  exact SeqAt.compareEq_reads r1 r2 lp lq (by omega) ⟨.bl _, H, I, rfl, k⟩
theorem op_neW (hu : X.A.units + 64 < cLine) : OpR X (compareOp .NotEq) (rNeW X.K) := fun pins s σ H x y v u Q I rx ry ⟨p, q, hp, hq, lp, lq, m, k⟩ => by
  obtain ⟨as, r1⟩ := Dp.reads I p x v hp rx
  obtain ⟨bs, r2⟩ := Dp.reads I q y u hq ry
  exact SeqAt.compareNe_reads r1 r2 lp lq (by omega) ⟨.bl _, H, I, rfl, k⟩
/-- a comparison's answer is a truth value -/
theorem ok_B {R : R2} {f : D → D → Option D} {g : D → D → Option Bool} (hg : ∀ x y, f x y = (g x y).map D.bl)
    (h : ∀ (S : List D) ρ G H x y dx dy k (Q : VK), MemS C S ρ G H → RT C ρ G H dx x → RT C ρ G H dy y → g dx dy = some k → Q (.bl k) H → R x y H Q) : R2Ok C (RS C) R f := fun S ρ G H x y d dx dy Q m rx ry e q => by
  rw [hg] at e
  cases z : g dx dy with
  | none => rw [z] at e; cases e
  | some k =>
    rw [z] at e; cases e
    exact h S ρ G H x y dx dy k Q m rx ry z (q _ _ _ _ m .refl (rep_bl.mpr rfl))
theorem ok_eq : R2Ok C (RS C) (fun x y H Q => rEqW C.K x y H Q ∨ rEq x y H Q) cEq := ok_B (g := dEq) (fun _ _ => rfl) fun S ρ G H x y dx dy k Q m rx ry e q => by
  rcases dEq_cases dx dy with ⟨a, b, rfl, rfl, z⟩ | z
  · rw [z] at e; cases e
    rw [rt_str] at rx ry; subst rx; subst ry
    exact .inr ⟨rfl, by have w : decide (V.str a = V.str b) = (a == b) := by { rw [Bool.eq_iff_iff]; simp }; rw [w]; exact q⟩
  · rw [z] at e
    unfold dEqP at e
    split at e
    · rename_i p1 p2 h1 h2
      split at e
      · rename_i hs
        cases e
        exact .inl ⟨p1, p2, dp_rt m.sub rx h1, dp_rt m.sub ry h2, hs.1, hs.2.1, hs.2.2, q⟩
      · cases e
    · cases e
theorem ok_ne : R2Ok C (RS C) (fun x y H Q => rNeW C.K x y H Q ∨ rNe x y H Q) cNe := ok_B (g := fun a b => (dEq a b).map not) (fun a b => by unfold cNe; cases dEq a b <;> rfl) fun S ρ G H x y dx dy k Q m rx ry e q => by
  rcases dEq_cases dx dy with ⟨a, b, rfl, rfl, z⟩ | z
  · rw [z] at e; cases e
    rw [rt_str] at rx ry; subst rx; subst ry
    exact .inr ⟨rfl, by have w : decide (V.str a = V.str b) = (a == b) := by { rw [Bool.eq_iff_iff]; simp }; rw [w]; exact q⟩
  · rw [z] at e
    unfold dEqP at e
    split at e
    · rename_i p1 p2 h1 h2
      split at e
      · rename_i hs
        cases e
        exact .inl ⟨p1, p2, dp_rt m.sub rx h1, dp_rt m.sub ry h2, hs.1, hs.2.1, hs.2.2, q⟩
      · cases e
    · cases e
theorem dt_eq (hu : X.A.units + 64 < cLine) (ha : DO X cls W a δa) (hb : DO X cls W b δb) : DT X cls W (.Compare a [.Eq] [b] pos) (tB (eOp cEq δa δb)) := dt_cmp ((op_eqW hu).or op_eq) ok_eq ha hb (nomark _)
theorem dt_ne (hu : X.A.units + 64 < cLine) (ha : DO X cls W a δa) (hb : DO X cls W b δb) : DT X cls W (.Compare a [.NotEq] [b] pos) (tB (eOp cNe δa δb)) := dt_cmp ((op_neW hu).or op_ne) ok_ne ha hb (nomark _)
theorem de_eq (hu : X.A.units + 64 < cLine) (ha : DO X cls W a δa) (hb : DO X cls W b δb) : DE X cls W (.Compare a [.Eq] [b] pos) (eOp cEq δa δb) := de_cmp ((op_eqW hu).or op_eq) ok_eq ha hb (nomark _)
theorem de_ne (hu : X.A.units + 64 < cLine) (ha : DO X cls W a δa) (hb : DO X cls W b δb) : DE X cls W (.Compare a [.NotEq] [b] pos) (eOp cNe δa δb) := de_cmp ((op_neW hu).or op_ne) ok_ne ha hb (nomark _)
/-! order -/
def rOrd (p : Int → Int → Bool) (q : Str → Str → Bool) : R2 := fun x y H Q => (∃ i j, x = .int i ∧ y = .int j ∧ Q (.bl (p i j)) H) ∨ ∃ i j, x = .str i ∧ y = .str j ∧ Q (.bl (q i j)) H
def dOrd (p : Int → Int → Bool) (q : Str → Str → Bool) : D → D → Option D
  | .int i, .int j => some (.bl (p i j))
  | .str i, .str j => some (.bl (q i j))
  | _, _ => none
theorem ok_ord {p : Int → Int → Bool} {q : Str → Str → Bool} : R2Ok C (RS C) (rOrd p q) (dOrd p q) := fun S ρ G H x y d dx dy Q m rx ry e k => by
  cases dx <;> try cases e
  · rename_i i
    cases dy <;> try cases e
    rename_i j
    rw [rt_int] at rx ry
    exact .inl ⟨i, j, rx, ry, k _ _ _ _ m .refl (rep_bl.mpr rfl)⟩
  · rename_i i
    cases dy <;> try cases e
    rename_i j
    rw [rt_str] at rx ry
    exact .inr ⟨i, j, rx, ry, k _ _ _ _ m .refl (rep_bl.mpr rfl)⟩
abbrev oLt : D → D → Option D := dOrd (fun i j => decide (i < j)) fun i j => decide (i.cps.toList < j.cps.toList)
abbrev oLe : D → D → Option D := dOrd (fun i j => decide (i ≤ j)) fun i j => !decide (j.cps.toList < i.cps.toList)
abbrev oGt : D → D → Option D := dOrd (fun i j => decide (j < i)) fun i j => decide (j.cps.toList < i.cps.toList)
abbrev oGe : D → D → Option D := dOrd (fun i j => decide (j ≤ i)) fun i j => !decide (i.cps.toList < j.cps.toList)
theorem or_lt : OpR X (compareOp .Lt) (rOrd (fun i j => decide (i < j)) fun i j => decide (i.cps.toList < j.cps.toList)) := op_lt.or op_lt_str
theorem or_le : OpR X (compareOp .LtE) (rOrd (fun i j => decide (i ≤ j)) fun i j => !decide (j.cps.toList < i.cps.toList)) := op_le.or op_le_str
theorem or_gt : OpR X (compareOp .Gt) (rOrd (fun i j => decide (j < i)) fun i j => decide (j.cps.toList < i.cps.toList)) := op_gt.or op_gt_str
theorem or_ge : OpR X (compareOp .GtE) (rOrd (fun i j => decide (j ≤ i)) fun i j => !decide (i.cps.toList < j.cps.toList)) := op_ge.or op_ge_str
theorem dt_lt (ha : DO X cls W a δa) (hb : DO X cls W b δb) : DT X cls W (.Compare a [.Lt] [b] pos) (tB (eOp oLt δa δb)) := dt_cmp or_lt ok_ord ha hb (nomark _)
theorem dt_le (ha : DO X cls W a δa) (hb : DO X cls W b δb) : DT X cls W (.Compare a [.LtE] [b] pos) (tB (eOp oLe δa δb)) := dt_cmp or_le ok_ord ha hb (nomark _)
theorem dt_gt (ha : DO X cls W a δa) (hb : DO X cls W b δb) : DT X cls W (.Compare a [.Gt] [b] pos) (tB (eOp oGt δa δb)) := dt_cmp or_gt ok_ord ha hb (nomark _)
theorem dt_ge (ha : DO X cls W a δa) (hb : DO X cls W b δb) : DT X cls W (.Compare a [.GtE] [b] pos) (tB (eOp oGe δa δb)) := dt_cmp or_ge ok_ord ha hb (nomark _)
theorem de_lt (ha : DO X cls W a δa) (hb : DO X cls W b δb) : DE X cls W (.Compare a [.Lt] [b] pos) (eOp oLt δa δb) := de_cmp or_lt ok_ord ha hb (nomark _)
theorem de_le (ha : DO X cls W a δa) (hb : DO X cls W b δb) : DE X cls W (.Compare a [.LtE] [b] pos) (eOp oLe δa δb) := de_cmp or_le ok_ord ha hb (nomark _)
theorem de_gt (ha : DO X cls W a δa) (hb : DO X cls W b δb) : DE X cls W (.Compare a [.Gt] [b] pos) (eOp oGt δa δb) := de_cmp or_gt ok_ord ha hb (nomark _)
theorem de_ge (ha : DO X cls W a δa) (hb : DO X cls W b δb) : DE X cls W (.Compare a [.GtE] [b] pos) (eOp oGe δa δb) := de_cmp or_ge ok_ord ha hb (nomark _)
/-- a ≤ b ≤ c -/
def eChain (f g : D → D → Option D) (a b c : De) : De := fun Γ S => (a Γ S).bind fun x S1 => (b Γ S1).bind fun y S2 => (ofO (f (deref S2 x) (deref S2 y)) S2).bind fun k S3 => match asB k with
  | some true => (c Γ S3).bind fun z S4 => ofO (g (deref S4 y) (deref S4 z)) S4
  | some false => .ok (.bl false) S3
  | none => .stuck
/-! is None -/
theorem rep_isNon {ρ : List Addr} {G : Hp} : ∀ {d : D} {v : V}, Rep C ρ G d v → decide (v = .non) = isNon d := fun {d v} h => by
  cases d <;> rw [Rep] at h
  · subst h; rfl
  · subst h; rfl
  · subst h; rfl
  · subst h; rfl
  · obtain ⟨_, _, rfl, _⟩ := h; rfl
  · obtain ⟨_, _, rfl, _⟩ := h; rfl
  · obtain ⟨_, _, rfl, _⟩ := h; rfl
  · obtain ⟨_, _, _, rfl, _⟩ := h; rfl
  · obtain ⟨_, _, rfl⟩ := h; rfl
  · obtain ⟨_, rfl, _⟩ := h; rfl
theorem rt_isNon {ρ : List Addr} {G H : Hp} {d : D} {v : V} (h : RT C ρ G H d v) : decide (v = .non) = isNon d := by
  cases d with
  | lst _ => obtain ⟨_, _, rfl, _⟩ := h; rfl
  | dct _ _ => obtain ⟨_, _, rfl, _⟩ := h; rfl
  | ins _ _ _ => obtain ⟨_, _, _, rfl, _⟩ := h; rfl
  | _ => exact rep_isNon (C := C) (ρ := ρ) (G := G) h
theorem ok_isN : R2Ok C (RS C) (fun x y H Q => y = .non ∧ Q (.bl (decide (x = .non))) H) cIs := fun S ρ G H x y d dx dy Q m rx ry e q => by
  have hy : dy = .non := by cases dy <;> first | rfl | (cases dx <;> cases e)
  subst hy
  rw [rt_non] at ry
  replace e : some (D.bl (isNon dx)) = some d := by cases dx <;> exact e
  cases e
  exact ⟨ry, by rw [rt_isNon rx]; exact q _ _ _ _ m .refl (rep_bl.mpr rfl)⟩
theorem ok_notN : R2Ok C (RS C) (fun x y H Q => y = .non ∧ Q (.bl (!decide (x = .non))) H) cIsNot := fun S ρ G H x y d dx dy Q m rx ry e q => by
  have hy : dy = .non := by cases dy <;> first | rfl | (cases dx <;> cases e)
  subst hy
  rw [rt_non] at ry
  replace e : some (D.bl (!isNon dx)) = some d := by cases dx <;> exact e
  cases e
  exact ⟨ry, by rw [rt_isNon rx]; exact q _ _ _ _ m .refl (rep_bl.mpr rfl)⟩
theorem dt_isN (ha : DO X cls W a δa) (hb : DO X cls W b δb) : DT X cls W (.Compare a [.Is] [b] pos) (tB (eOp cIs δa δb)) := dt_cmp op_isN ok_isN ha hb (nomark _)
theorem dt_notN (ha : DO X cls W a δa) (hb : DO X cls W b δb) : DT X cls W (.Compare a [.IsNot] [b] pos) (tB (eOp cIsNot δa δb)) := dt_cmp op_notN ok_notN ha hb (nomark _)
theorem de_isN (ha : DO X cls W a δa) (hb : DO X cls W b δb) : DE X cls W (.Compare a [.Is] [b] pos) (eOp cIs δa δb) := de_cmp op_isN ok_isN ha hb (nomark _)
theorem de_notN (ha : DO X cls W a δa) (hb : DO X cls W b δb) : DE X cls W (.Compare a [.IsNot] [b] pos) (eOp cIsNot δa δb) := de_cmp op_notN ok_notN ha hb (nomark _)
/-! in -/
theorem rep_flat {ρ : List Addr} {G : Hp} {d : D} {v : V} (f : flatD d = true) (h : Rep C ρ G d v) : flatV v = true ∧ (d = .non ∧ v = .non ∨ (∃ b, d = .bl b ∧ v = .bl b) ∨ (∃ i, d = .int i ∧ v = .int i) ∨ ∃ x, d = .str x ∧ v = .str x) := by
  cases d <;> try cases f
  · rw [rep_non] at h; subst h; exact ⟨rfl, .inl ⟨rfl, rfl⟩⟩
  · rw [rep_bl] at h; subst h; exact ⟨rfl, .inr (.inl ⟨_, rfl, rfl⟩)⟩
  · rw [rep_int] at h; subst h; exact ⟨rfl, .inr (.inr (.inl ⟨_, rfl, rfl⟩))⟩
  · rw [rep_str] at h; subst h; exact ⟨rfl, .inr (.inr (.inr ⟨_, rfl, rfl⟩))⟩
theorem eqV_D {ρ : List Addr} {G : Hp} {d1 d2 : D} {v1 v2 : V} (f1 : flatD d1 = true) (f2 : flatD d2 = true) (h1 : Rep C ρ G d1 v1) (h2 : Rep C ρ G d2 v2) : eqV v1 v2 = eqF d1 d2 := by
  obtain ⟨_, h1⟩ := rep_flat f1 h1
  obtain ⟨_, h2⟩ := rep_flat f2 h2
  rcases h1 with ⟨rfl, rfl⟩ | ⟨_, rfl, rfl⟩ | ⟨_, rfl, rfl⟩ | ⟨_, rfl, rfl⟩ <;> rcases h2 with ⟨rfl, rfl⟩ | ⟨_, rfl, rfl⟩ | ⟨_, rfl, rfl⟩ | ⟨_, rfl, rfl⟩ <;> first | rfl | (unfold eqV eqF; simp) | (unfold eqV eqF; rfl)
theorem reps_flat {ρ : List Addr} {G : Hp} : ∀ {ds : List D} {vs : List V}, Reps C ρ G ds vs → ds.all flatD = true → vs.all flatV = true
  | [], _, h, _ => by rw [h.inv0]; rfl
  | d :: ds, _, h, f => by
    obtain ⟨v, r, rfl, h1, h2⟩ := h.inv
    rw [List.all_cons, Bool.and_eq_true] at f ⊢
    exact ⟨(rep_flat f.1 h1).1, reps_flat h2 f.2⟩
theorem inV_D {ρ : List Addr} {G : Hp} {d : D} {v : V} (f : flatD d = true) (h : Rep C ρ G d v) : ∀ {ds : List D} {vs : List V}, Reps C ρ G ds vs → ds.all flatD = true → inV v vs = inF d ds
  | [], _, h, _ => by rw [h.inv0]; rfl
  | d' :: ds, _, h', f' => by
    obtain ⟨v', r, rfl, h1, h2⟩ := h'.inv
    rw [List.all_cons, Bool.and_eq_true] at f'
    unfold inV inF
    rw [List.any_cons, List.any_cons, eqV_D f'.1 f h1 h]
    exact congrArg _ (inV_D f h h2 f'.2)
def rInA (K : PySem.W.Frag) (neg : Bool) : R2 := fun x y H Q => rIn K neg x y H Q ∨ (if neg then rNotInS x y H Q else rInS x y H Q)
theorem flat_rep {ρ : List Addr} {G H : Hp} {d : D} {v : V} (f : flatD d = true) (h : RT C ρ G H d v) : Rep C ρ G d v := by
  cases d <;> first | exact h | cases f
theorem ok_inG {neg : Bool} {f : D → D → Option D} (hf : ∀ x y, f x y = (dIn x y).map fun k => D.bl (if neg then !k else k)) : R2Ok C (RS C) (rInA C.K neg) f := ok_B (g := fun x y => (dIn x y).map fun k => if neg then !k else k) (fun x y => by rw [hf]; cases dIn x y <;> rfl) fun S ρ G H x y dx dy k Q m rx ry e q => by
  cases z : dIn dx dy with
  | none => rw [z] at e; cases e
  | some k0 =>
    rw [z] at e
    have e : (if neg then !k0 else k0) = k := Option.some.inj e
    subst e
    unfold dIn at z
    split at z
    · rename_i d xs
      split at z
      · rename_i hf
        cases z
        obtain ⟨a, vs, rfl, h1, h2⟩ := ry
        have r := flat_rep hf.1 rx
        refine .inl ⟨a, vs, rfl, .inl (SqL.of h1), (rep_flat hf.1 r).1, reps_flat h2 hf.2, ?_⟩
        rw [inV_D hf.1 r h2 hf.2]; exact q
      · cases z
    · rename_i d xs
      split at z
      · rename_i hf
        cases z
        rw [rt_tup] at ry
        obtain ⟨a, vs, rfl, h1, h2⟩ := ry
        have r := flat_rep hf.1 rx
        refine .inl ⟨a, vs, rfl, .inr (m.sub.sqT h1), (rep_flat hf.1 r).1, reps_flat h2 hf.2, ?_⟩
        rw [inV_D hf.1 r h2 hf.2]; exact q
      · cases z
    · rename_i x y
      split at z
      · rename_i hl
        cases z
        rw [rt_str] at rx ry
        subst rx ry
        obtain ⟨⟨l⟩⟩ := x
        have hl : l.length = 1 := hl
        obtain ⟨c, rfl⟩ : ∃ c, l = [c] := by
          cases l with
          | nil => cases hl
          | cons c r => cases r with
            | nil => exact ⟨c, rfl⟩
            | cons _ _ => cases hl
        refine .inr ?_
        cases neg with
        | true => exact ⟨c, y, rfl, rfl, q⟩
        | false => exact ⟨c, y, rfl, rfl, q⟩
      · cases z
    · cases z
theorem ok_in : R2Ok C (RS C) (rInA C.K false) cIn := ok_inG fun _ _ => rfl
theorem ok_notIn : R2Ok C (RS C) (rInA C.K true) cNotIn := ok_inG fun _ _ => rfl
theorem or_in : OpR X (compareOp .In) (rInA X.K false) := op_in_seq.or op_inS
theorem or_notIn : OpR X (compareOp .NotIn) (rInA X.K true) := op_notIn_seq.or op_notInS
theorem dt_in (ha : DO X cls W a δa) (hb : DO X cls W b δb) (hm : behindInMarks .In b = false) : DT X cls W (.Compare a [.In] [b] pos) (tB (eOp cIn δa δb)) := dt_cmp or_in ok_in ha hb hm
theorem dt_notIn (ha : DO X cls W a δa) (hb : DO X cls W b δb) (hm : behindInMarks .NotIn b = false) : DT X cls W (.Compare a [.NotIn] [b] pos) (tB (eOp cNotIn δa δb)) := dt_cmp or_notIn ok_notIn ha hb hm
theorem de_in (ha : DO X cls W a δa) (hb : DO X cls W b δb) (hm : behindInMarks .In b = false) : DE X cls W (.Compare a [.In] [b] pos) (eOp cIn δa δb) := de_cmp or_in ok_in ha hb hm
theorem de_notIn (ha : DO X cls W a δa) (hb : DO X cls W b δb) (hm : behindInMarks .NotIn b = false) : DE X cls W (.Compare a [.NotIn] [b] pos) (eOp cNotIn δa δb) := de_cmp or_notIn ok_notIn ha hb hm
end
end DL

namespace DL
open PySem PySem.Spec PyProof.Rows L2

/-! ### tuple * int: once, or of nothing -/
theorem tuple_mulS (l : Addr) (items : Array Value) (n : Nat) (dd : Option Addr) (sl : Array (Option Value)) (x : Int) (u : Tok) (c0 : (decide (x < -(2 ^ 63)) || decide (x ≥ 2 ^ 63)) = false) (c1 : (items.isEmpty || x == 1) = true) :
    Meets (Builtin.«tuple.__mul__» ⟨[.ref l, .int x u], []⟩) (fun _ R s => s.heap.get? l = some { cls := .type "tuple", dict := dd, data := .seq items n, slots := sl } ∧ R (.ok (.ret (Value.ref l))) s) :=
  .of_wp fun prog w A R s h => by
    obtain ⟨hp, g, d, tk, os⟩ := s
    obtain ⟨hl, h⟩ := h
    have f1 := AutoSeq1.idx_int
    wp_walk using wpAny_loadPart' hl
    repeat (first
      | (refine wpAny_ite_false (decide_eq_false (by rw [c0]; exact Bool.false_ne_true)) ?_; wp_walk using wpAny_loadPart' hl)
      | (refine wpAny_ite_true (decide_eq_true c1) ?_; wp_walk using wpAny_loadPart' hl))
    exact ⟨_, rfl, h⟩
def rRepS (K : PySem.W.Frag) : R2 := fun x y H Q => ∃ l k xs, x = .ref l ∧ y = .int k ∧ SqT K H l xs ∧ -(2 ^ 63) ≤ k ∧ k < 2 ^ 63 ∧ (xs = [] ∨ k = 1) ∧ Q (.ref l) H
theorem op_repS {X : Cx} : OpR X (binaryOp .Mult) (rRepS X.K) := by
  intro pins s σ H x y v u Q I rx ry h
  obtain ⟨l, k, xs, rfl, rfl, hT, h1, h2, hz, q⟩ := h
  cases rx
  obtain ⟨t, rfl⟩ := ry
  obtain ⟨its, r, ⟨⟨cls, dd, data, sl⟩, ho, hc, n, hd⟩, hs⟩ := I.tuple hT
  simp only at hc hd
  subst hc hd
  have c0 : (decide (k < -(2 ^ 63)) || decide (k ≥ 2 ^ 63)) = false := by
    rw [decide_eq_false (by omega), decide_eq_false (by omega)] <;> rfl
  have c1 : (its.toArray.isEmpty || k == 1) = true := by
    rcases hz with rfl | rfl
    · cases r; rfl
    · simp
  exact wpAny_binaryOp_repeat_ref (T := "tuple") (U := "int") (by decide) ⟨_, ho, rfl⟩ (fun s' => typeIs_int s' k t) noFill_tuple_mul F.fills_int_mul F.slot_int_rmul repeat_tuple F.slot_int_index.lookup
    (call_meets F.slot_int_rmul (typeIs_int s k t) F.entry_int_rmul (F.args_int_rmul_2 _ _) (int_rmul_tuple k t l its.toArray n dd sl)
      ⟨ho, rfl, ⟨_, ho, rfl⟩, call_meets F.slot_tuple_mul ⟨_, ho, rfl⟩ F.entry_tuple_mul (F.args_tuple_mul_2 _ _) (tuple_mulS l its.toArray n dd sl k t c0 c1) ⟨ho, ⟨.ref l, H, I, rfl, q⟩⟩⟩)

section
variable {X : Cx} {cls : Nat → Addr} {C : Cn} {W : WX} {a b c e : Expr} {pos : Pos} {δa δb δc δ : De}
def onTM : D → D → Option D
  | .tup xs, .int k => if 1 ≤ k ∧ k ≤ 1000 ∧ xs.length ≤ 1000 then some (.tup (List.replicate k.toNat xs).flatten) else none
  | _, _ => none
theorem ok_TM : R2Ok C (RS C) (fun x y H Q => rRepS C.K x y H Q ∨ rRepT C.K x y H Q) onTM := fun S ρ G H x y d dx dy Q m rx ry e q => by
  cases dx <;> try cases e
  rename_i xs
  cases dy <;> try cases e
  rename_i k
  rw [rt_tup] at rx
  obtain ⟨a, vs, rfl, h1, r1⟩ := rx
  rw [rt_int] at ry
  subst ry
  simp only [onTM] at e
  split at e
  · rename_i hp
    cases e
    have hl := r1.length
    by_cases hx : vs = []
    · subst hx
      have e0 : xs = [] := by cases xs with
        | nil => rfl
        | cons _ _ => cases hl
      subst e0
      refine .inl ⟨a, k, [], rfl, rfl, m.sub.sqT h1, by omega, by omega, .inl rfl, q _ _ _ _ m .refl (rep_tup.mpr ⟨a, [], rfl, h1, ?_⟩)⟩
      have z : (List.replicate k.toNat ([] : List D)).flatten = [] := by induction k.toNat with
        | zero => rfl
        | succ n ih => rw [List.replicate_succ, List.flatten_cons, ih]; rfl
      rw [z]; exact .nil
    · by_cases hk : k = 1
      · subst hk
        refine .inl ⟨a, 1, vs, rfl, rfl, m.sub.sqT h1, by decide, by decide, .inr rfl, q _ _ _ _ m .refl (rep_tup.mpr ⟨a, vs, rfl, h1, ?_⟩)⟩
        simpa using r1
      · refine .inr ⟨a, k, vs, rfl, rfl, m.sub.sqT h1, hx, by omega, hp.2.1, by omega, fun p hpn => ?_⟩
        obtain ⟨G2, m2, n2, r⟩ := x_newT m (r1.rep k.toNat) hpn
        exact q _ _ _ _ m2 n2 r
  · cases e
theorem dMul_cases (a b d : D) (h : dMul a b = some d) : fMulI a b = some d ∨ onLM a b = some d ∨ onTM a b = some d := by
  cases a <;> cases b <;> first
    | exact .inr (.inl h)
    | exact .inr (.inr h)
    | (cases h; done)
    | (refine .inl ?_
       simp only [dMul] at h
       split at h
       · rename_i hm
         show (if decide (mulOk _ _) = true then _ else _) = _
         rw [if_pos (decide_eq_true hm)]; exact h
       · cases h)
theorem de_mul (ha : DO X cls W a δa) (hb : DO X cls W b δb) : DE X cls W (.BinOp a .Mult b pos) (eOp dMul δa δb) :=
  de_op (op_mul.or (op_rep.or (op_repS.or op_repT))) ((ok_I fun i j h => of_decide_eq_true (p := mulOk i j) h).or (g := dMul) (f' := fun a b => if (onLM a b).isSome then onLM a b else onTM a b) ((rf_rs ok_LM).or (f' := onTM) ok_TM (fun a b d h => by
      by_cases z : (onLM a b).isSome
      · rw [if_pos z] at h; exact .inl h
      · rw [if_neg z] at h; exact .inr h)) (fun a b d h => by
      rcases dMul_cases a b d h with h | h | h
      · exact .inl h
      · exact .inr (by rw [h]; rfl)
      · exact .inr (by cases a <;> cases b <;> first | cases h | (show (if (Option.isSome none) = true then _ else _) = _; exact h)))) ha hb
theorem de_neg (ha : DO X cls W a δa) : DE X cls W (.UnaryOp .USub a pos) (eUn dNeg δa) := de_un un_neg (fun S ρ G H x d dx Q m rx e q => by
  cases dx <;> try cases e
  rw [rt_int] at rx
  subst rx
  exact ⟨_, rfl, q _ _ _ _ m .refl (rep_int.mpr rfl)⟩) ha

/-! ### places -/
theorem atI_reps {ρ : List Addr} {G : Hp} {ds : List D} {vs : List V} (r : Reps C ρ G ds vs) {i : Int} {d : D} (h : atI ds i = some d) : ∃ v, atI vs i = some v ∧ Rep C ρ G d v := by
  unfold atI at h ⊢
  rw [r.length] at h
  cases z : ixN vs.length i with
  | none => rw [z] at h; cases h
  | some j =>
    rw [z] at h
    obtain ⟨v, hv, rv⟩ := r.get (i := j) h
    exact ⟨v, hv, rv⟩
theorem atI_map {α β : Type} (f : α → β) (xs : List α) (i : Int) : atI (xs.map f) i = (atI xs i).map f := by
  unfold atI
  rw [List.length_map]
  cases ixN xs.length i with
  | none => rfl
  | some j => simp
theorem ok_ix : R2Ok C (RS C) (rIx C.K) dIdx := fun S ρ G H x y d dx dy Q m rx ry e q => by
  cases dx <;> try cases e
  · cases dy <;> try cases e
    rename_i x i
    rw [rt_str] at rx; rw [rt_int] at ry
    subst rx ry
    simp only [dIdx] at e
    split at e
    · rename_i hz
      cases z : atI x.cps.toList i with
      | none => rw [z] at e; cases e
      | some c =>
        rw [z] at e; cases e
        exact .inr (.inr ⟨x, i, c, rfl, rfl, hz, z, q _ _ _ _ m .refl (rep_str.mpr rfl)⟩)
    · cases e
  · cases dy <;> try cases e
    rename_i xs i
    rw [rt_int] at ry
    subst ry
    obtain ⟨a, vs, rfl, h1, r1⟩ := rx
    obtain ⟨v, hv, rv⟩ := atI_reps r1 (show atI xs i = some d from e)
    exact .inl ⟨a, vs, i, v, rfl, rfl, SqL.of h1, hv, q _ _ _ _ m .refl rv⟩
  · cases dy <;> try cases e
    rename_i xs i
    rw [rt_int] at ry
    subst ry
    rw [rt_tup] at rx
    obtain ⟨a, vs, rfl, h1, r1⟩ := rx
    obtain ⟨v, hv, rv⟩ := atI_reps r1 (show atI xs i = some d from e)
    exact .inr (.inl ⟨a, vs, i, v, rfl, rfl, m.sub.sqT h1, hv, q _ _ _ _ m .refl rv⟩)
  · cases dy <;> try cases e
    rename_i xs i
    rw [rt_int] at ry
    subst ry
    rw [rt_scr] at rx
    obtain ⟨a, rfl, h1⟩ := rx
    replace e : (atI xs i).map D.int = some d := e
    cases z : atI xs i with
    | none => rw [z] at e; cases e
    | some n =>
      rw [z] at e; cases e
      exact .inl ⟨a, _, i, .int n, rfl, rfl, m.sub.sqL h1, by rw [atI_map, z]; rfl, q _ _ _ _ m .refl (rep_int.mpr rfl)⟩
theorem de_sub_ (ha : DO X cls W a δa) (hb : DO X cls W b δb) (hs : PlainIx b := by exact fun _ _ => rfl) : DE X cls W (.Subscript a b pos) (eOp dIdx δa δb) := de_ix ix_seq ok_ix ha hb hs

/-! ### slices -/
def RQ {α : Type} : RVT α α := fun _ _ _ _ a b => a = b
theorem back_RQ {α : Type} : Back (RQ (α := α)) := fun _ _ _ _ _ _ _ _ h => h
abbrev Dp_ := List Sl → List D → Res (Option Int)
def tP (C : Cn) (W : WX) (δ : Dp_) : TO := fun σ H Q => ∃ Γ S ρ G, Mem C Γ S ρ G H σ ∧ Post C W RQ Γ ρ G H σ (δ Γ S) Q
def DP (X : Cx) (cls : Nat → Addr) (W : WX) (e : Option Expr) (δ : Dp_) : Prop := PO X e (tP ⟨X.K, cls⟩ W δ)
theorem PO.weak {X : Cx} {e : Option Expr} {t t' : TO} (h : PO X e t) (i : ∀ σ H Q, t' σ H Q → t σ H Q) : PO X e t' := ⟨fun pins s σ H Q I h' => h.run pins s σ H Q I (i σ H Q h')⟩
def pNo : Dp_ := fun _ S => .ok none S
def asI : D → Option Int | .int i => some i | _ => none
def pSo (a : De) : Dp_ := fun Γ S => (a Γ S).bind fun x S1 => ofO ((asI x).map some) S1
theorem dp_no : DP X cls W none pNo := PO.weak po_none fun σ H Q ⟨Γ, S, ρ, G, m, p⟩ => p.at m rfl
theorem dp_so (ha : DE X cls W a δa) : DP X cls W (some a) (pSo δa) := PO.weak (po_some ha) fun σ H Q ⟨Γ, S, ρ, G, m, p⟩ => ⟨Γ, S, ρ, G, m, (Post.seq back_RQ p).mono fun x H1 ⟨dx, S1, ρ1, G1, m1, n1, r1, p1⟩ => by
  obtain ⟨k, hk, p2⟩ := ofO_post p1
  cases dx <;> try cases hk
  exact ⟨_, rep_int.mp r1, p2.at m1 rfl⟩⟩
def dCut (d : D) (lo hi : Option Int) : Option D := match d with
  | .lst xs => some (.lst (cutD xs lo hi))
  | .tup xs => some (.tup (cutD xs lo hi))
  | .str x => if x.length ≤ sizeLine then some (.str (cutS x lo hi)) else none
  | _ => none
def onlyL (d : D) (lo hi : Option Int) : Option D := match d with
  | .lst xs => some (.lst (cutD xs lo hi))
  | _ => none
def eCut (f : D → Option Int → Option Int → Option D) (a : De) (lo hi : Dp_) : De := fun Γ S => (a Γ S).bind fun x S1 => (lo Γ S1).bind fun l S2 => (hi Γ S2).bind fun h S3 => ofO (f (deref S3 x) l h) S3
theorem Reps.cut {ρ : List Addr} {G : Hp} {ds : List D} {vs : List V} (r : Reps C ρ G ds vs) (lo hi : Option Int) : Reps C ρ G (cutD ds lo hi) (cutV vs lo hi) := by
  unfold cutD cutV
  rw [r.length]
  exact (r.drop _).take _
theorem x_cut {RV : RVT D V} (bk : Back RV) {lo hi : Dp_} {R : V → Option Int → Option Int → Hp → VK → Prop} {f : D → Option Int → Option Int → Option D}
    (ho : ∀ (S : List D) ρ G H x dx l h d (Q : VK), MemS ⟨X.K, cls⟩ S ρ G H → RT ⟨X.K, cls⟩ ρ G H dx x → f dx l h = some d → (∀ v ρ' G' H', MemS ⟨X.K, cls⟩ S ρ' G' H' → Nx ρ G H ρ' G' H' → RV H ρ' G' H' d v → Q v H') → R x l h H Q)
    {σ : L2.St} {H : Hp} {Q : VK} (h : tE ⟨X.K, cls⟩ W RV (eCut f δa lo hi) σ H Q) : tSl R (tE ⟨X.K, cls⟩ W (RO ⟨X.K, cls⟩) δa) (tP ⟨X.K, cls⟩ W lo) (tP ⟨X.K, cls⟩ W hi) σ H Q := by
  obtain ⟨Γ, S, ρ, G, m, p⟩ := h
  refine ⟨Γ, S, ρ, G, m, (Post.seq bk p).mono fun x H1 ⟨dx, S1, ρ1, G1, m1, n1, r1, p1⟩ => ⟨Γ, S1, ρ1, G1, m1, (Post.seq (RV := RQ) bk p1).mono fun l H2 ⟨l', S2, ρ2, G2, m2, n2, r2, p2⟩ => ⟨Γ, S2, ρ2, G2, m2, (Post.seq (RV := RQ) bk p2).mono fun h H3 ⟨h', S3, ρ3, G3, m3, n3, r3, p3⟩ => ?_⟩⟩⟩
  have e2 : l' = l := r2
  have e3 : h' = h := r3
  subst e2 e3
  obtain ⟨d, hd, p4⟩ := ofO_post p3
  exact ho S3 ρ3 G3 H3 x _ l' h' d Q m3.toS (m3.read (H0 := H1) ((r1.step (H1 := H1) n2).step n3)) hd fun v ρ' G' H' m' n' r' => p4.here (m3.step n' m') n' r'
theorem de_cut {lo hi : Option Expr} {δl δh : Dp_} {p2 : Pos} (ha : DO X cls W a δa) (hl : DP X cls W lo δl) (hh : DP X cls W hi δh) : DE X cls W (.Subscript a (.Slice lo hi none p2) pos) (eCut dCut δa δl δh) :=
  PE.weak (pe_slice (sl_list.or (sl_tupA.or sl_str)) ha hl hh) fun σ H Q h => x_cut back_RS (fun S ρ G H x dx l h d Q m rx e q => by
    cases dx <;> try cases e
    · rw [rt_str] at rx
      subst rx
      simp only [dCut] at e
      split at e
      · rename_i hz
        cases e
        exact .inr (.inr ⟨_, rfl, hz, q _ _ _ _ m .refl (rep_str.mpr rfl)⟩)
      · cases e
    · obtain ⟨a, vs, rfl, h1, r1⟩ := rx
      refine .inl ⟨a, vs, rfl, SqL.of h1, fun p hp => ?_⟩
      obtain ⟨m2, n2, r⟩ := x_new m (r1.cut l h) hp
      obtain ⟨G2, m3, n3, r3⟩ := RF.settle m n2 m2 r
      exact q _ _ _ _ m3 n3 r3
    · rw [rt_tup] at rx
      obtain ⟨a, vs, rfl, h1, r1⟩ := rx
      refine .inr (.inl ⟨a, vs, rfl, m.sub.sqT h1, fun hw => ?_, fun _ p hp => ?_⟩)
      · have z : cutV vs l h = vs := by
          unfold cutV
          rw [hw.1, hw.2]; simp
        exact q _ _ _ _ m .refl (rep_tup.mpr ⟨a, vs, rfl, h1, by rw [← z]; exact r1.cut l h⟩)
      · obtain ⟨G2, m2, n2, r⟩ := x_newT m (r1.cut l h) hp
        exact q _ _ _ _ m2 n2 r) h
theorem df_cut {lo hi : Option Expr} {δl δh : Dp_} {p2 : Pos} (ha : DO X cls W a δa) (hl : DP X cls W lo δl) (hh : DP X cls W hi δh) : DF X cls W (.Subscript a (.Slice lo hi none p2) pos) (eCut onlyL δa δl δh) :=
  PE.weak (pe_slice sl_list ha hl hh) fun σ H Q h => x_cut back_RF (fun S ρ G H x dx l h d Q m rx e q => by
    cases dx <;> try cases e
    obtain ⟨a, vs, rfl, h1, r1⟩ := rx
    refine ⟨a, vs, rfl, SqL.of h1, fun p hp => ?_⟩
    obtain ⟨m2, n2, r⟩ := x_new m (r1.cut l h) hp
    exact q _ _ _ _ m2 n2 r) h

/-! ### built-in calls -/
def RC1 (C : Cn) (RV : RVT D V) (R : List V → Hp → VK → Prop) (f : D → Option D) : Prop := ∀ (S : List D) (ρ : List Addr) (G H : Hp) (x : V) (d dx : D) (Q : VK), MemS C S ρ G H → RT C ρ G H dx x → f dx = some d →
  (∀ v ρ' G' H', MemS C S ρ' G' H' → Nx ρ G H ρ' G' H' → RV H ρ' G' H' d v → Q v H') → R [x] H Q
def RC2 (C : Cn) (RV : RVT D V) (R : List V → Hp → VK → Prop) (f : D → D → Option D) : Prop := ∀ (S : List D) (ρ : List Addr) (G H : Hp) (x y : V) (d dx dy : D) (Q : VK), MemS C S ρ G H → RT C ρ G H dx x → RT C ρ G H dy y → f dx dy = some d →
  (∀ v ρ' G' H', MemS C S ρ' G' H' → Nx ρ G H ρ' G' H' → RV H ρ' G' H' d v → Q v H') → R [x, y] H Q
theorem x_c1 {RV : RVT D V} (bk : Back RV) {R : List V → Hp → VK → Prop} {f : D → Option D} (h : PE X e (tCB R (tCons (tE ⟨X.K, cls⟩ W (RO ⟨X.K, cls⟩) δa) tNil))) (ho : RC1 ⟨X.K, cls⟩ RV R f) : PE X e (tE ⟨X.K, cls⟩ W RV (eUn f δa)) :=
  PE.weak h fun σ H Q h => x_un (R := fun x H Q => R [x] H Q) bk (fun S ρ G H x d dx Q m rx e q => ho S ρ G H x d dx Q m rx e q) h
theorem x_c2 {RV : RVT D V} (bk : Back RV) {R : List V → Hp → VK → Prop} {f : D → D → Option D} (h : PE X e (tCB R (tCons (tE ⟨X.K, cls⟩ W (RO ⟨X.K, cls⟩) δa) (tCons (tE ⟨X.K, cls⟩ W (RO ⟨X.K, cls⟩) δb) tNil)))) (ho : RC2 ⟨X.K, cls⟩ RV R f) : PE X e (tE ⟨X.K, cls⟩ W RV (eOp f δa δb)) :=
  PE.weak h fun σ H Q h => x_op (R := fun x y H Q => R [x, y] H Q) bk (fun S ρ G H x y d dx dy Q m rx ry e q => ho S ρ G H x y d dx dy Q m rx ry e q) h
theorem da1 (ha : DO X cls W a δa) (hs : starEach [a] X.env = (false, eval a X.env) :: starEach [] X.env := by rfl) : PA X [a] (tCons (tE ⟨X.K, cls⟩ W (RO ⟨X.K, cls⟩) δa) tNil) := pa_cons ha pa_nil hs
theorem da2 (ha : DO X cls W a δa) (hb : DO X cls W b δb) (hs : starEach [a, b] X.env = (false, eval a X.env) :: starEach [b] X.env := by rfl) (hs2 : starEach [b] X.env = (false, eval b X.env) :: starEach [] X.env := by rfl) : PA X [a, b] (tCons (tE ⟨X.K, cls⟩ W (RO ⟨X.K, cls⟩) δa) (tCons (tE ⟨X.K, cls⟩ W (RO ⟨X.K, cls⟩) δb) tNil)) := pa_cons ha (pa_cons hb pa_nil hs2) hs
theorem rc_len : RC1 C (RS C) (fun xs H Q => (∃ p ys, xs = [.ref p] ∧ (SqL C.K H p ys ∨ SqT C.K H p ys) ∧ Q (.int ys.length) H) ∨ ∃ z, xs = [.str z] ∧ z.length ≤ sizeLine ∧ Q (.int z.length) H) dLen := fun S ρ G H x d dx Q m rx e q => by
  cases dx <;> try cases e
  · rw [rt_str] at rx; subst rx
    simp only [dLen] at e
    split at e
    · cases e; exact .inr ⟨_, rfl, by assumption, q _ _ _ _ m .refl (rep_int.mpr rfl)⟩
    · cases e
  · obtain ⟨a, vs, rfl, h1, r1⟩ := rx
    exact .inl ⟨a, vs, rfl, .inl (SqL.of h1), q _ _ _ _ m .refl (rep_int.mpr (by rw [r1.length]))⟩
  · rw [rt_tup] at rx
    obtain ⟨a, vs, rfl, h1, r1⟩ := rx
    exact .inl ⟨a, vs, rfl, .inr (m.sub.sqT h1), q _ _ _ _ m .refl (rep_int.mpr (by rw [r1.length]))⟩
  · rw [rt_scr] at rx
    obtain ⟨a, rfl, h1⟩ := rx
    exact .inl ⟨a, _, rfl, .inl (m.sub.sqL h1), q _ _ _ _ m .refl (rep_int.mpr (by rw [List.length_map]))⟩
variable {p : Pos}
theorem de_len (hg : Gl X "len") (hm : X.mg "len" = none) (ha : DO X cls W a δa) (he : starEach [a] X.env = (false, eval a X.env) :: starEach [] X.env := by rfl) (hpl : (backTo pos (starEach [] X.env)).any (·.1) = false := by rfl) : DE X cls W (.Call (.Name "len" p) [a] [] pos) (eUn dLen δa) :=
  x_c1 back_RS (pe_callB (call_len_seq.or call_len_str) hg hm PySem.boot_len (da1 ha he) (by decide) (by decide) he hpl) rc_len
def dInt : D → Option D
  | .int i => some (.int i)
  | .bl b => some (.int (if b then 1 else 0))
  | .str x => if x.length ≤ 640 then (PySem.intText? x).map .int else none
  | _ => none
theorem rc_int : RC1 C (RS C) (fun xs H Q => ((∃ i, xs = [.int i] ∧ Q (.int i) H) ∨ ∃ k, xs = [.bl k] ∧ Q (.int (if k then 1 else 0)) H) ∨ ∃ a n, xs = [.str a] ∧ PySem.intText? a = some n ∧ a.length ≤ 640 ∧ Q (.int n) H) dInt := fun S ρ G H x d dx Q m rx e q => by
  cases dx <;> try cases e
  · rw [rt_bl] at rx; subst rx; exact .inl (.inr ⟨_, rfl, q _ _ _ _ m .refl (rep_int.mpr rfl)⟩)
  · rw [rt_int] at rx; subst rx; exact .inl (.inl ⟨_, rfl, q _ _ _ _ m .refl (rep_int.mpr rfl)⟩)
  · rename_i x
    rw [rt_str] at rx; subst rx
    simp only [dInt] at e
    split at e
    · cases z : PySem.intText? x with
      | none => rw [z] at e; cases e
      | some n => rw [z] at e; cases e; exact .inr ⟨_, n, rfl, z, by assumption, q _ _ _ _ m .refl (rep_int.mpr rfl)⟩
    · cases e
theorem de_intc (hg : Gl X "int") (hm : X.mg "int" = none) (ha : DO X cls W a δa) (he : starEach [a] X.env = (false, eval a X.env) :: starEach [] X.env := by rfl) (hpl : (backTo pos (starEach [] X.env)).any (·.1) = false := by rfl) : DE X cls W (.Call (.Name "int" p) [a] [] pos) (eUn dInt δa) :=
  x_c1 back_RS (pe_callTy (call_int1.or call_int_str) hg hm (by decide +kernel) (da1 ha he) (by decide) (by decide) he hpl) rc_int
def dTuple : D → Option D
  | .lst xs => some (.tup xs)
  | .tup xs => some (.tup xs)
  | _ => none
theorem rc_tuple : RC1 C (RS C) (fun xs H Q => ∃ p ys, xs = [.ref p] ∧ ((SqL C.K H p ys ∧ ∀ l, H l = none → Q (.ref l) (upd H l (.tup ys))) ∨ (SqT C.K H p ys ∧ Q (.ref p) H))) dTuple := fun S ρ G H x d dx Q m rx e q => by
  cases dx <;> try cases e
  · obtain ⟨a, vs, rfl, h1, r1⟩ := rx
    refine ⟨a, vs, rfl, .inl ⟨SqL.of h1, fun l hl => ?_⟩⟩
    obtain ⟨G2, m2, n2, r⟩ := x_newT m r1 hl
    exact q _ _ _ _ m2 n2 r
  · rw [rt_tup] at rx
    obtain ⟨a, vs, rfl, h1, r1⟩ := rx
    exact ⟨a, vs, rfl, .inr ⟨m.sub.sqT h1, q _ _ _ _ m .refl (rep_tup.mpr ⟨a, vs, rfl, h1, r1⟩)⟩⟩
theorem de_tuple (hg : Gl X "tuple") (hm : X.mg "tuple" = none) (ha : DO X cls W a δa) (he : starEach [a] X.env = (false, eval a X.env) :: starEach [] X.env := by rfl) (hpl : (backTo pos (starEach [] X.env)).any (·.1) = false := by rfl) : DE X cls W (.Call (.Name "tuple" p) [a] [] pos) (eUn dTuple δa) :=
  x_c1 back_RS (pe_callTy call_tuple_of hg hm (by decide +kernel) (da1 ha he) (by decide) (by decide) he hpl) rc_tuple
def dList : D → Option D
  | .lst xs => some (.lst xs)
  | .tup xs => some (.lst xs)
  | _ => none
theorem rc_list : RC1 C (RF C) (fun xs H Q => ∃ p ys, xs = [.ref p] ∧ (SqL C.K H p ys ∨ SqT C.K H p ys) ∧ ∀ l, H l = none → Q (.ref l) (upd H l (.lst ys))) dList := fun S ρ G H x d dx Q m rx e q => by
  cases dx <;> try cases e
  · obtain ⟨a, vs, rfl, h1, r1⟩ := rx
    refine ⟨a, vs, rfl, .inl (SqL.of h1), fun l hl => ?_⟩
    obtain ⟨m2, n2, r⟩ := x_new m r1 hl
    exact q _ _ _ _ m2 n2 r
  · rw [rt_tup] at rx
    obtain ⟨a, vs, rfl, h1, r1⟩ := rx
    refine ⟨a, vs, rfl, .inr (m.sub.sqT h1), fun l hl => ?_⟩
    obtain ⟨m2, n2, r⟩ := x_new m r1 hl
    exact q _ _ _ _ m2 n2 r
theorem df_list (hg : Gl X "list") (hm : X.mg "list" = none) (ha : DO X cls W a δa) (he : starEach [a] X.env = (false, eval a X.env) :: starEach [] X.env := by rfl) (hpl : (backTo pos (starEach [] X.env)).any (·.1) = false := by rfl) : DF X cls W (.Call (.Name "list" p) [a] [] pos) (eUn dList δa) :=
  x_c1 back_RF (pe_callTy call_list_of hg hm (by decide +kernel) (da1 ha he) (by decide) (by decide) he hpl) rc_list
/-! isinstance -/
def tyN : D → Option String
  | .non => some "NoneType" | .bl _ => some "bool" | .int _ => some "int" | .str _ => some "str" | .lst _ => some "list" | .tup _ => some "tuple" | .dct _ _ => some "dict" | .scr _ => some "list" | _ => none
def dIsi (T : String) (d : D) : Option D := (tyN d).bind fun t => (kitB t T).map .bl
theorem rt_tyN {ρ : List Addr} {G H : Hp} (e : SubH C G H) {d : D} {v : V} {t : String} (h : RT C ρ G H d v) (k : tyN d = some t) : TyX C.K H v (.type t) := by
  cases d <;> cases k
  · rw [rt_non] at h; subst h; exact .base .non
  · rw [rt_bl] at h; subst h; exact .base (.bl _)
  · rw [rt_int] at h; subst h; exact .base (.int _)
  · rw [rt_str] at h; subst h; exact .base (.str _)
  · obtain ⟨a, vs, rfl, h1, _⟩ := h; exact .base (.lst h1)
  · rw [rt_tup] at h
    obtain ⟨a, vs, rfl, h1, _⟩ := h
    rcases e.sqT h1 with (h1 | ⟨o, h1⟩) | ⟨o, its, n, h1, h2, _⟩
    · exact .base (.tup h1)
    · exact .fTuple h1
    · exact .kTuple h1 h2
  · obtain ⟨a, vs, rfl, h1 | ⟨o, h1⟩, _⟩ := h
    · exact .base (.dK h1)
    · exact .fDict h1
  · rw [rt_scr] at h
    obtain ⟨a, rfl, h1⟩ := h
    rcases e.sqL h1 with (h1 | ⟨o, h1⟩) | ⟨o, its, n, h1, h2, _⟩
    · exact .base (.lst h1)
    · exact .base (.frz h1)
    · exact .kList h1 h2
theorem de_isi {T : String} {y : Str} {p2 : Pos} (hg : Gl X "isinstance") (hm : X.mg "isinstance" = none) (hgT : Gl X y) (hmT : X.mg y = none) (hvT : bootBuiltins y = some (.type T)) (ha : DO X cls W a δa)
    (hn : y ≠ "__name__" := by decide) (hdb : (y == ("__debug__" : Str)) = false := by decide)
    (he : starEach [a, .Name y p2] X.env = (false, eval a X.env) :: starEach [.Name y p2] X.env := by rfl) (he2 : starEach [.Name y p2] X.env = (false, eval (.Name y p2) X.env) :: starEach [] X.env := by rfl) (hpl : (backTo pos (starEach [.Name y p2] X.env)).any (·.1) = false := by rfl) :
    DE X cls W (.Call (.Name "isinstance" p) [a, .Name y p2] [] pos) (eUn (dIsi T) δa) :=
  PE.weak (pe_callB call_isi hg hm (by decide +kernel) (pa_cons ha (pa_cons (pe_bltn (v := .ty T) hgT hmT hvT rfl hn hdb) pa_nil he2) he) (by decide) (by decide) he hpl) fun σ H Q h =>
    x_un (R := fun x H Q => rIsi X.K [x, .ty T] H Q) back_RS (fun S ρ G H x d dx Q m rx e q => by
      unfold dIsi at e
      cases k : tyN dx with
      | none => rw [k] at e; cases e
      | some t =>
        rw [k] at e
        cases z : kitB t T with
        | none => simp only [Option.bind_some, z] at e; cases e
        | some b =>
          simp only [Option.bind_some, z] at e; cases e
          exact ⟨x, .ty T, _, _, b, rfl, .ty T, rt_tyN m.sub rx k, kit_ty z, q _ _ _ _ m .refl (rep_bl.mpr rfl)⟩) h
end
end DL

namespace DL
open PySem PySem.Spec PyProof.Rows L2

/-! ### statements -/
/-- what is locked stays so -/
def Old (H H' : Hp) : Prop := ∀ a ob u, H a = some (.frz ob u) → H' a = some (.frz ob u)
theorem Old.refl {H : Hp} : Old H H := fun _ _ _ h => h
theorem Old.trans {H H1 H2 : Hp} (x : Old H H1) (y : Old H1 H2) : Old H H2 := fun a ob u h => y a ob u (x a ob u h)
theorem ObAt.nofrz {C : Cn} {ρ : List Addr} {G H : Hp} {a : Addr} {ob : Obj} {u : HO} : ∀ {d : D}, ObAt C ρ G H a d → H a ≠ Option.some (HO.frz ob u)
  | .lst xs, ⟨vs, h, _⟩ => by rw [h]; exact fun z => (nomatch z)
  | .dct ks xs, ⟨vs, h, _⟩ => by rw [h]; exact fun z => (nomatch z)
  | .ins c ns xs, ⟨dx, vs, h, _⟩ => by rw [h]; exact fun z => (nomatch z)
theorem Mem.nofrz {C : Cn} {Γ : List Sl} {S : List D} {ρ : List Addr} {G H : Hp} {σ : L2.St} (m : Mem C Γ S ρ G H σ) {a : Addr} {ob : Obj} {u : HO} (h : H a = some (.frz ob u)) : a ∉ ρ := fun z => by
  obtain ⟨i, hi⟩ := List.mem_iff_getElem?.mp z
  have hi2 : i < S.length := by rw [← m.len]; exact (List.getElem?_eq_some_iff.mp hi).1
  obtain ⟨b, hb, r⟩ := m.sto i S[i] (List.getElem?_eq_getElem hi2)
  rw [hi] at hb; cases hb
  exact r.nofrz h
theorem old_of {C : Cn} {Γ : List Sl} {S : List D} {ρ ρ' : List Addr} {G H G' H' : Hp} {σ : L2.St} (m : Mem C Γ S ρ G H σ) (n : Nx ρ G H ρ' G' H') : Old H H' := fun a ob u h => n.keep a _ (fun _ z => nomatch z) h (m.nofrz h)
/-- an entry (a def's), and what has been settled since a loop began -/
structure Ent where
  ρ : List Addr
  G : Hp
  H : Hp
  B : Hp
  R : List Addr
  F : Hp
structure SI (C : Cn) (en : Ent) (Γ : List Sl) (S : List D) (ρ : List Addr) (G H : Hp) (σ : L2.St) : Prop where
  mem : Mem C Γ S ρ G H σ
  nx : Nx en.ρ en.G en.H ρ G H
  frs : ∀ (i : Nat) (d : D) (a : Addr), Γ[i]? = some (Sl.own d) → σ[i]? = some (some (V.ref a)) → en.H a = none
  base : Sub en.B G
  basr : en.R <+: ρ
  old : Old en.F H
section
variable {C : Cn} {W : WX} {en : Ent} {Γ Γ' : List Sl} {S S' : List D} {ρ ρ' : List Addr} {G G' H H' : Hp} {σ σ' : L2.St}
theorem SI.step (i : SI C en Γ S ρ G H σ) (m : Mem C Γ S' ρ' G' H' σ) (n : Nx ρ G H ρ' G' H') : SI C en Γ S' ρ' G' H' σ := ⟨m, i.nx.trans n, i.frs, i.base.trans n.ext, i.basr.trans n.pre, i.old.trans (old_of i.mem n)⟩
/-- what is wanted behind a statement -/
def PostS (C : Cn) (W : WX) (en : Ent) (D : Ends) : Out → Prop
  | .next Γ S => ∀ ρ G H σ, SI C en Γ S ρ G H σ → D.nx σ H
  | .brk Γ S => ∀ ρ G H σ, SI C en Γ S ρ G H σ → D.bk σ H
  | .cont Γ S => ∀ ρ G H σ, SI C en Γ S ρ G H σ → D.ct σ H
  | .ret d S => ∀ v ρ G H, MemS C S ρ G H → Nx en.ρ en.G en.H ρ G H → Sub en.B G ∧ Old en.F H → Rep C ρ G d v → D.rt v H
  | .exc e Γ S => ∀ cls dx ρ G H σ, SI C en Γ S ρ G H σ → ExRep C ρ G H e cls dx → W cls dx σ H
  | .stuck => False
def tS (C : Cn) (W : WX) (δ : Ds) : TS := fun D σ H => ∃ en Γ S ρ G, SI C en Γ S ρ G H σ ∧ PostS C W en D (δ Γ S)
def DS (X : Cx) (cls : Nat → Addr) (W : WX) (st : Stmt) (δ : Ds) : Prop := PS X st (tS ⟨X.K, cls⟩ W δ)
def DSs (X : Cx) (cls : Nat → Addr) (W : WX) (st : List Stmt) (δ : Ds) : Prop := PSs X st (tS ⟨X.K, cls⟩ W δ)
theorem PostS.mono {D D' : Ends} {o : Out} (h : PostS C W en D o) (h1 : ∀ σ H, D.nx σ H → D'.nx σ H) (h2 : ∀ v H, D.rt v H → D'.rt v H) (h3 : ∀ σ H, D.bk σ H → D'.bk σ H) (h4 : ∀ σ H, D.ct σ H → D'.ct σ H) : PostS C W en D' o := by
  cases o with
  | next Γ S => exact fun ρ G H σ i => h1 _ _ (h ρ G H σ i)
  | brk Γ S => exact fun ρ G H σ i => h3 _ _ (h ρ G H σ i)
  | cont Γ S => exact fun ρ G H σ i => h4 _ _ (h ρ G H σ i)
  | ret d S => exact fun v ρ G H m n o r => h2 _ _ (h v ρ G H m n o r)
  | exc e Γ S => exact h
  | stuck => exact h

def sNext : Ds := fun Γ S => .next Γ S
def sSeq (a b : Ds) : Ds := fun Γ S => match a Γ S with | .next Γ' S' => b Γ' S' | o => o
/-- a statement that begins with an evaluation -/
def after {α : Type} (r : Res α) (Γ : List Sl) (f : α → List D → Out) : Out := match r with
  | .ok d S => f d S
  | .exc e S => .exc e Γ S
  | .stuck => .stuck
@[simp] theorem after_ok {α : Type} (d : α) (S : List D) (Γ : List Sl) (f : α → List D → Out) : after (.ok d S) Γ f = f d S := Eq.trans rfl rfl
@[simp] theorem after_exc {α : Type} (e : Exn) (S : List D) (Γ : List Sl) (f : α → List D → Out) : after (.exc e S : Res α) Γ f = .exc e Γ S := Eq.trans rfl rfl
@[simp] theorem after_stuck {α : Type} (Γ : List Sl) (f : α → List D → Out) : after (.stuck : Res α) Γ f = .stuck := Eq.trans rfl rfl
def sExpr (e : De) : Ds := fun Γ S => after (e Γ S) Γ fun _ S1 => .next Γ S1
def sRet (e : De) : Ds := fun Γ S => after (e Γ S) Γ fun d S1 => .ret d S1
def sRetN : Ds := fun _ S => .ret .non S
def sSet (i : Nat) (e : De) : Ds := fun Γ S => after (e Γ S) Γ fun d S1 => .next (Γ.set i (.val d)) S1
def sOwn (i : Nat) (e : De) : Ds := fun Γ S => after (e Γ S) Γ fun d S1 => .next (Γ.set i (.own d)) S1
def sIf (t : Dt) (a b : Ds) : Ds := fun Γ S => after (t Γ S) Γ fun k S1 => if k then a Γ S1 else b Γ S1
def sBrk : Ds := fun Γ S => .brk Γ S
def sCont : Ds := fun Γ S => .cont Γ S

theorem post_after {α β : Type} {RV : RVT α β} {D : Ends} {r : Res α} {F : α → List DL.D → Out} {Q : β → Hp → Prop} (i : SI C en Γ S ρ G H σ) (h : PostS C W en D (after r Γ F))
    (k : ∀ d S1 ρ1 G1 H1 v, Mem C Γ S1 ρ1 G1 H1 σ → Nx ρ G H ρ1 G1 H1 → SI C en Γ S1 ρ1 G1 H1 σ → RV H ρ1 G1 H1 d v → PostS C W en D (F d S1) → Q v H1) : Post C W RV Γ ρ G H σ r Q := by
  cases r with
  | ok d S1 => exact fun v ρ1 G1 H1 m n c => k d S1 ρ1 G1 H1 v m n (i.step m n) c h
  | exc e S1 => exact fun cls dx ρ1 G1 H1 m n c => h cls dx ρ1 G1 H1 σ (i.step m n) c
  | stuck => exact h.elim
/-- a slot is set -/
theorem Mem.setv (m : Mem C Γ S ρ G H σ) (i : Nat) {d : D} {v : V} (r : Rep C ρ G d v) : Mem C (Γ.set i (.val d)) S ρ G H (σ.set i (some v)) where
  sub := m.sub
  val := fun j d' h => by
    by_cases e : i = j
    · subst e
      by_cases hl : i < Γ.length
      · rw [List.getElem?_set_self hl] at h; cases h
        exact ⟨v, List.getElem?_set_self (by rw [← m.wid]; exact hl), r⟩
      · rw [List.getElem?_eq_none (by simpa using hl)] at h; cases h
    · rw [List.getElem?_set_ne e] at h
      rw [List.getElem?_set_ne e]; exact m.val j d' h
  own := fun j d' h => by
    by_cases e : i = j
    · subst e
      by_cases hl : i < Γ.length
      · rw [List.getElem?_set_self hl] at h; cases h
      · rw [List.getElem?_eq_none (by simpa using hl)] at h; cases h
    · rw [List.getElem?_set_ne e] at h
      rw [List.getElem?_set_ne e]; exact m.own j d' h
  inj := fun j k d1 d2 a h1 h2 => by
    have ne : ∀ (j : Nat) (d' : D), (Γ.set i (Sl.val d))[j]? = some (Sl.own d') → i ≠ j ∧ Γ[j]? = some (Sl.own d') := fun j d' h => by
      by_cases e : i = j
      · subst e
        by_cases hl : i < Γ.length
        · rw [List.getElem?_set_self hl] at h; cases h
        · rw [List.getElem?_eq_none (by simpa using hl)] at h; cases h
      · rw [List.getElem?_set_ne e] at h; exact ⟨e, h⟩
    obtain ⟨n1, g1⟩ := ne j d1 h1
    obtain ⟨n2, g2⟩ := ne k d2 h2
    rw [List.getElem?_set_ne n1, List.getElem?_set_ne n2]
    exact m.inj j k d1 d2 a g1 g2
  sto := m.sto
  stG := m.stG
  len := m.len
  nd := m.nd
  wid := by rw [List.length_set, List.length_set]; exact m.wid
  xcp := fun j x h => by
    by_cases e : i = j
    · subst e
      by_cases hl : i < Γ.length
      · rw [List.getElem?_set_self hl] at h; cases h
      · rw [List.getElem?_eq_none (by simpa using hl)] at h; cases h
    · rw [List.getElem?_set_ne e] at h
      rw [List.getElem?_set_ne e]; exact m.xcp j x h
theorem SI.setv (s : SI C en Γ S ρ G H σ) (i : Nat) {d : D} {v : V} (r : Rep C ρ G d v) : SI C en (Γ.set i (.val d)) S ρ G H (σ.set i (some v)) := ⟨s.mem.setv i r, s.nx, fun j d' a h1 h2 => by
  by_cases e : i = j
  · subst e
    by_cases hl : i < Γ.length
    · rw [List.getElem?_set_self hl] at h1; cases h1
    · rw [List.getElem?_eq_none (by simpa using hl)] at h1; cases h1
  · rw [List.getElem?_set_ne e] at h1 h2; exact s.frs j d' a h1 h2, s.base, s.basr, s.old⟩
/-- a slot is forgotten -/
theorem SI.forget (s : SI C en Γ S ρ G H σ) (i : Nat) : SI C en (Γ.set i .non) S ρ G H σ := by
  have ne : ∀ (j : Nat) (x : Sl), x ≠ .non → (Γ.set i Sl.non)[j]? = some x → Γ[j]? = some x := fun j x hx h => by
    by_cases e : i = j
    · subst e
      by_cases hl : i < Γ.length
      · rw [List.getElem?_set_self hl] at h; cases h; exact absurd rfl hx
      · rw [List.getElem?_eq_none (by simpa using hl)] at h; cases h
    · rw [List.getElem?_set_ne e] at h; exact h
  exact ⟨⟨s.mem.sub, fun j d h => s.mem.val j d (ne j _ (fun z => nomatch z) h), fun j d h => s.mem.own j d (ne j _ (fun z => nomatch z) h), fun j k d d' a h1 h2 => s.mem.inj j k d d' a (ne j _ (fun z => nomatch z) h1) (ne k _ (fun z => nomatch z) h2), s.mem.sto, s.mem.stG, s.mem.len, s.mem.nd, by rw [List.length_set]; exact s.mem.wid, fun j x h => s.mem.xcp j x (ne j _ (fun z => nomatch z) h)⟩,
    s.nx, fun j d a h1 h2 => s.frs j d a (ne j _ (fun z => nomatch z) h1) h2, s.base, s.basr, s.old⟩
/-- a slot takes a new object for its own -/
theorem SI.seto (s : SI C en Γ S ρ G H σ) (i : Nat) {d : D} {a : Addr} (n : Nx ρ G H ρ' G' H') (m : Mem C Γ S' ρ' G' H' σ) (na : a ∉ ρ') (h0 : H a = none) (hg : G' a = none) (r : ObAt C ρ' G' H' a d) : SI C en (Γ.set i (.own d)) S' ρ' G' H' (σ.set i (some (V.ref a))) := by
  have other : ∀ (j : Nat) (d' : D) (b : Addr), Γ[j]? = some (Sl.own d') → σ[j]? = some (some (V.ref b)) → b ≠ a := fun j d' b h1 h2 z => by
    obtain ⟨b', e, r', _⟩ := s.mem.own j d' h1
    rw [h2] at e; cases e
    obtain ⟨o, ho⟩ := r'.some
    rw [z, h0] at ho; cases ho
  refine ⟨⟨m.sub, fun j d' h => ?_, fun j d' h => ?_, fun j k d1 d2 b h1 h2 e1 e2 => ?_, m.sto, m.stG, m.len, m.nd, by rw [List.length_set, List.length_set]; exact m.wid, fun j x h => ?_⟩, s.nx.trans n, fun j d' b h1 h2 => ?_, s.base.trans n.ext, s.basr.trans n.pre, s.old.trans (old_of s.mem n)⟩
  · by_cases e : i = j
    · subst e
      by_cases hl : i < Γ.length
      · rw [List.getElem?_set_self hl] at h; cases h
      · rw [List.getElem?_eq_none (by simpa using hl)] at h; cases h
    · rw [List.getElem?_set_ne e] at h
      rw [List.getElem?_set_ne e]; exact m.val j d' h
  · by_cases e : i = j
    · subst e
      by_cases hl : i < Γ.length
      · rw [List.getElem?_set_self hl] at h; cases h
        exact ⟨a, List.getElem?_set_self (by rw [← m.wid]; exact hl), r, hg, na⟩
      · rw [List.getElem?_eq_none (by simpa using hl)] at h; cases h
    · rw [List.getElem?_set_ne e] at h
      rw [List.getElem?_set_ne e]; exact m.own j d' h
  · have split : ∀ (j : Nat) (d' : D), (Γ.set i (Sl.own d))[j]? = some (Sl.own d') → i = j ∨ (i ≠ j ∧ Γ[j]? = some (Sl.own d')) := fun j d' h => by
      by_cases e : i = j
      · exact .inl e
      · rw [List.getElem?_set_ne e] at h; exact .inr ⟨e, h⟩
    have at_i : ∀ b, i < σ.length → (σ.set i (some (V.ref a)))[i]? = some (some (V.ref b)) → b = a := fun b hl h => by
      rw [List.getElem?_set_self hl] at h; cases h; rfl
    have hi : ∀ (d' : D), (Γ.set i (Sl.own d))[i]? = some (Sl.own d') → i < σ.length := fun d' h => by
      rw [← m.wid]
      by_cases hl : i < Γ.length
      · exact hl
      · rw [List.getElem?_eq_none (by simpa using hl)] at h; cases h
    rcases split j d1 h1 with z1 | ⟨n1, g1⟩
    · subst z1
      rcases split k d2 h2 with z2 | ⟨n2, g2⟩
      · exact z2
      · rw [List.getElem?_set_ne n2] at e2
        exact absurd (at_i b (hi _ h1) e1) (other k d2 b g2 e2)
    · rw [List.getElem?_set_ne n1] at e1
      rcases split k d2 h2 with z2 | ⟨n2, g2⟩
      · subst z2
        exact absurd (at_i b (hi _ h2) e2) (other j d1 b g1 e1)
      · rw [List.getElem?_set_ne n2] at e2
        exact m.inj j k d1 d2 b g1 g2 e1 e2
  · by_cases e : i = j
    · subst e
      by_cases hl : i < Γ.length
      · rw [List.getElem?_set_self hl] at h; cases h
      · rw [List.getElem?_eq_none (by simpa using hl)] at h; cases h
    · rw [List.getElem?_set_ne e] at h
      rw [List.getElem?_set_ne e]; exact m.xcp j x h
  · by_cases e : i = j
    · subst e
      by_cases hl : i < Γ.length
      · rw [List.getElem?_set_self (by rw [← m.wid]; exact hl)] at h2; cases h2
        exact s.nx.live _ h0
      · rw [List.getElem?_eq_none (by simpa using hl)] at h1; cases h1
    · rw [List.getElem?_set_ne e] at h1 h2; exact s.frs j d' b h1 h2
end

section
variable {X : Cx} {cls : Nat → Addr} {W : WX} {st : Stmt} {sts : List Stmt} {e c : Expr} {pos : Pos} {δ δ1 δ2 : Ds} {ε : De} {τ : Dt}
theorem dss_nil : DSs X cls W [] sNext := PSs.weak pss_nil fun D σ H ⟨en, Γ, S, ρ, G, i, p⟩ => p ρ G H σ i
theorem dss_one (h : DS X cls W st δ) : DSs X cls W [st] δ := pss_one h
theorem dss_cons (h : DS X cls W st δ1) (h2 : DSs X cls W sts δ2) : DSs X cls W (st :: sts) (sSeq δ1 δ2) := PSs.weak (pss_cons h h2) fun D σ H ⟨en, Γ, S, ρ, G, i, p⟩ => by
  refine ⟨en, Γ, S, ρ, G, i, ?_⟩
  unfold sSeq at p
  cases q : δ1 Γ S with
  | next Γ' S' => rw [q] at p; exact fun ρ' G' H' σ' i' => ⟨en, Γ', S', ρ', G', i', p⟩
  | brk Γ' S' => rw [q] at p; exact p
  | cont Γ' S' => rw [q] at p; exact p
  | ret d S' => rw [q] at p; exact p
  | exc x Γ' S' => rw [q] at p; exact p
  | stuck => rw [q] at p; exact p
theorem ds_pass : DS X cls W (.Pass pos) sNext := PS.weak ps_pass fun D σ H ⟨en, Γ, S, ρ, G, i, p⟩ => p ρ G H σ i
theorem ds_break : DS X cls W (.Break pos) sBrk := PS.weak ps_break fun D σ H ⟨en, Γ, S, ρ, G, i, p⟩ => p ρ G H σ i
theorem ds_cont : DS X cls W (.Continue pos) sCont := PS.weak ps_continue fun D σ H ⟨en, Γ, S, ρ, G, i, p⟩ => p ρ G H σ i
theorem ds_expr (h : DE X cls W e ε) (hs : swapsWith e none pos.line X.env = pure false := by rfl) : DS X cls W (.Expr e pos) (sExpr ε) := PS.weak (ps_expr h hs) fun D σ H ⟨en, Γ, S, ρ, G, i, p⟩ =>
  ⟨Γ, S, ρ, G, i.mem, post_after i p fun d S1 ρ1 G1 H1 v m n i1 r p1 => p1 ρ1 G1 H1 σ i1⟩
theorem ds_ret (h : DE X cls W e ε) : DS X cls W (.Return (some e) pos) (sRet ε) := PS.weak (ps_ret h) fun D σ H ⟨en, Γ, S, ρ, G, i, p⟩ =>
  ⟨Γ, S, ρ, G, i.mem, post_after i p fun d S1 ρ1 G1 H1 v m n i1 r p1 => p1 v ρ1 G1 H1 m.toS i1.nx ⟨i1.base, i1.old⟩ r⟩
theorem ds_retN : DS X cls W (.Return none pos) sRetN := PS.weak ps_retN fun D σ H ⟨en, Γ, S, ρ, G, i, p⟩ => p .non ρ G H i.mem.toS i.nx ⟨i.base, i.old⟩ (rep_non.mpr rfl)
/-- the slot's object is returned -/
def sRetO (i : Nat) : Ds := fun Γ S => match Γ[i]? with | some (.own d) => .ret d S | _ => .stuck
/-- a slot's object is settled -/
theorem SI.settle {C : Cn} {en : Ent} {Γ : List Sl} {S : List D} {ρ : List Addr} {G H : Hp} {σ : L2.St} (s : SI C en Γ S ρ G H σ) {i : Nat} {d : D} (h : Γ[i]? = some (.own d)) : ∃ G', SI C en (Γ.set i (.val d)) S ρ G' H σ ∧ Sub G G' := by
  obtain ⟨a, e, r, hg, na⟩ := s.mem.own i d h
  obtain ⟨o, ho⟩ := r.some
  have hl : i < Γ.length := (List.getElem?_eq_some_iff.mp h).1
  have k : Sub G (upd G a o) := fun b u q => by rw [upd_ne (ne_of_none q hg)]; exact q
  have he : en.H a = none := s.frs i d a h e
  have spl : ∀ (j : Nat) (x : Sl), (Γ.set i (Sl.val d))[j]? = some x → (i = j ∧ x = .val d) ∨ (i ≠ j ∧ Γ[j]? = some x) := fun j x q => by
    by_cases z : i = j
    · subst z; rw [List.getElem?_set_self hl] at q; cases q; exact .inl ⟨rfl, rfl⟩
    · rw [List.getElem?_set_ne z] at q; exact .inr ⟨z, q⟩
  refine ⟨upd G a o, ⟨⟨s.mem.sub.put ho, fun j d' q => ?_, fun j d' q => ?_, fun j l d1 d2 b q1 q2 e1 e2 => ?_, fun j d' q => ?_, fun b q => ?_, s.mem.len, s.mem.nd, by rw [List.length_set]; exact s.mem.wid, fun j x q => by
    rcases spl j _ q with ⟨z, y⟩ | ⟨z, y⟩
    · cases y
    · exact ⟨(s.mem.xcp j x y).1, (s.mem.xcp j x y).2.mono k (List.prefix_refl _)⟩⟩, ⟨s.nx.pre, s.nx.ext.trans k, fun b u q => ?_, s.nx.keep, s.nx.live, s.nx.fre⟩, fun j d' b q1 q2 => ?_, s.base.trans k, s.basr, s.old⟩, k⟩
  · rcases spl j _ q with ⟨z, y⟩ | ⟨z, y⟩
    · subst z
      cases y
      refine ⟨_, e, ObAt.rep (r.mono k (List.prefix_refl _) fun u q => ?_)⟩
      rw [ho] at q; cases q; exact upd_same
    · obtain ⟨v, e1, r1⟩ := s.mem.val j d' y
      exact ⟨v, e1, r1.mono k (List.prefix_refl _)⟩
  · rcases spl j _ q with ⟨z, y⟩ | ⟨z, y⟩
    · cases y
    · obtain ⟨b, e1, r1, g1, n1⟩ := s.mem.own j d' y
      have ne : b ≠ a := fun w => by
        subst w
        exact z (s.mem.inj i j d d' b h y e e1)
      exact ⟨b, e1, r1.mono k (List.prefix_refl _) fun _ q => q, by rw [upd_ne ne]; exact g1, n1⟩
  · rcases spl j _ q1 with ⟨z, y⟩ | ⟨z, y⟩
    · cases y
    · rcases spl l _ q2 with ⟨z2, y2⟩ | ⟨z2, y2⟩
      · cases y2
      · exact s.mem.inj j l d1 d2 b y y2 e1 e2
  · obtain ⟨b, e1, r1⟩ := s.mem.sto j d' q
    exact ⟨b, e1, r1.mono k (List.prefix_refl _) fun _ q => q⟩
  · rw [upd_ne (fun z => na (by rw [← z]; exact q))]; exact s.mem.stG b q
  · by_cases z : b = a
    · subst z; exact .inr he
    · rw [upd_ne z] at q; exact s.nx.new b u q
  · rcases spl j _ q1 with ⟨z, y⟩ | ⟨z, y⟩
    · cases y
    · exact s.frs j d' b y q2
theorem ds_retO (i : Nat) {x : Str} {p2 : Pos} (hN : X.N[i]? = some x := by rfl) (hv : Vis X.env.scope x := by first | exact Or.inl rfl | exact Or.inr (Or.inl rfl) | exact Or.inr (Or.inr rfl)) (hd : (x == ("__debug__" : Str)) = false := by decide)
    (hcd : (x == ("__classdict__" : Str)) = false := by decide) : DS X cls W (.Return (some (.Name x p2)) pos) (sRetO i) := PS.weak (ps_ret (pv i hN hv hd hcd)) fun D σ H ⟨en, Γ, S, ρ, G, s, p⟩ => by
  unfold sRetO at p
  split at p
  · rename_i d hd
    obtain ⟨a, e, r, _, _⟩ := s.mem.own i d hd
    obtain ⟨G', s', _⟩ := s.settle hd
    have hl : i < Γ.length := (List.getElem?_eq_some_iff.mp hd).1
    obtain ⟨v, e1, r1⟩ := s'.mem.val i d (List.getElem?_set_self hl)
    rw [e] at e1; cases e1
    exact ⟨_, e, p _ ρ G' H s'.mem.toS s'.nx ⟨s'.base, s'.old⟩ r1⟩
  · exact p.elim
/-- settling, as nothing of the program does it: ahead of a statement -/
def sSettle (i : Nat) : Ds := fun Γ S => match Γ[i]? with | some (.own d) => .next (Γ.set i (.val d)) S | _ => .stuck
theorem dss_settle (i : Nat) (h : DSs X cls W sts δ) : DSs X cls W sts (sSeq (sSettle i) δ) := PSs.weak h fun D σ H ⟨en, Γ, S, ρ, G, s, p⟩ => by
  unfold sSeq sSettle at p
  cases q : Γ[i]? with
  | none => rw [q] at p; exact p.elim
  | some z =>
    rw [q] at p
    cases z with
    | own d =>
      obtain ⟨G', s', _⟩ := s.settle q
      exact ⟨en, _, S, ρ, G', s', p⟩
    | val d => exact p.elim
    | non => exact p.elim
    | xcp x => exact p.elim
/-- forgetting slots -/
def clr : List Nat → List Sl → List Sl
  | [], Γ => Γ
  | i :: r, Γ => clr r (Γ.set i .non)
theorem SI.clr {C : Cn} {en : Ent} {S : List D} {ρ : List Addr} {G H : Hp} {σ : L2.St} : ∀ {kl : List Nat} {Γ : List Sl}, SI C en Γ S ρ G H σ → SI C en (DL.clr kl Γ) S ρ G H σ
  | [], _, s => s
  | i :: r, _, s => SI.clr (kl := r) (s.forget i)
theorem ds_set {i : Nat} {x : Str} {pos' : Pos} (hN : X.N.Nodup) (hi : X.N[i]? = some x) (hx : Loc X.env.scope x) (h : DE X cls W e ε) (hs : swapsWith e (some (.Name x pos')) pos.line X.env = pure false := by rfl)
    (hf : X.fn x = true ∨ X.env.scope.names.lookup x = some .local := by first | exact .inl rfl | exact .inr rfl | assumption) : DS X cls W (.Assign [.Name x pos'] e pos) (sSet i ε) := PS.weak (ps_set hN hi hx h hs hf) fun D σ H ⟨en, Γ, S, ρ, G, s, p⟩ =>
  ⟨Γ, S, ρ, G, s.mem, post_after s p fun d S1 ρ1 G1 H1 v m n s1 r p1 => p1 _ _ _ _ (s1.setv i r)⟩
theorem ds_own {i : Nat} {x : Str} {pos' : Pos} (hN : X.N.Nodup) (hi : X.N[i]? = some x) (hx : Loc X.env.scope x) (h : DF X cls W e ε) (hs : swapsWith e (some (.Name x pos')) pos.line X.env = pure false := by rfl)
    (hf : X.fn x = true ∨ X.env.scope.names.lookup x = some .local := by first | exact .inl rfl | exact .inr rfl | assumption) : DS X cls W (.Assign [.Name x pos'] e pos) (sOwn i ε) := PS.weak (ps_set hN hi hx h hs hf) fun D σ H ⟨en, Γ, S, ρ, G, s, p⟩ =>
  ⟨Γ, S, ρ, G, s.mem, post_after s p fun d S1 ρ1 G1 H1 v m n s1 r p1 => by
    obtain ⟨a, rfl, na, h0, hg, r⟩ := r
    exact p1 _ _ _ _ (s.seto i n m na h0 hg r)⟩
theorem ds_if {a b : List Stmt} (hc : DT X cls W c τ) (ha : DSs X cls W a δ1) (hb : DSs X cls W b δ2) : DS X cls W (.If c a b pos) (sIf τ δ1 δ2) := PS.weak (ps_if hc ha hb) fun D σ H ⟨en, Γ, S, ρ, G, s, p⟩ =>
  ⟨Γ, S, ρ, G, s.mem, post_after s p fun d S1 ρ1 G1 H1 v m n s1 r p1 => by
    have e1 : d = v := r
    subst e1
    cases d with
    | true => exact iteT ⟨en, Γ, S1, ρ1, G1, s1, p1⟩
    | false => exact iteF ⟨en, Γ, S1, ρ1, G1, s1, p1⟩⟩
end

/-! ### a def -/
def bodyRun (n : Nat) (δ : Ds) : List D → List D → Res D := fun ds S => match δ (ds.map Sl.val ++ List.replicate (n - ds.length) Sl.non) S with
  | .next _ S' => .ok .non S'
  | .ret d S' => .ok d S'
  | .exc e _ S' => .exc e S'
  | _ => .stuck
def spD (C : Cn) (np : Nat) (F : List D → List D → Res D) : Sp := fun vs H Q E => ∃ S ρ G ds, MemS C S ρ G H ∧ Reps C ρ G ds vs ∧ vs.length = np ∧ match F ds S with
  | .ok d S' => ∀ v ρ' G' H', MemS C S' ρ' G' H' → Nx ρ G H ρ' G' H' → Rep C ρ' G' d v → Q v H'
  | .exc e S' => ∀ cls dx ρ' G' H', MemS C S' ρ' G' H' → Nx ρ G H ρ' G' H' → ExRep C ρ' G' H' e cls dx → E cls dx H'
  | .stuck => False
section
variable {P : Program} {w : World} {K : PySem.W.Frag} {mg : Str → Option Value} {base : Heap} {cls : Nat → Addr}
theorem start_mem {C : Cn} {S : List D} {ρ : List Addr} {G H : Hp} {ds : List D} {vs : List V} {N : List Str} (m : MemS C S ρ G H) (r : Reps C ρ G ds vs) : Mem C (ds.map Sl.val ++ List.replicate (N.length - ds.length) Sl.non) S ρ G H (L2.start N vs) := by
  have no : ∀ (i : Nat) (d : D), (ds.map Sl.val ++ List.replicate (N.length - ds.length) Sl.non)[i]? ≠ some (Sl.own d) := fun i d h => by
    have hm := List.mem_of_getElem? h
    rcases List.mem_append.mp hm with z | z
    · obtain ⟨_, _, e⟩ := List.mem_map.mp z; cases e
    · cases (List.eq_of_mem_replicate z)
  refine ⟨m.sub, fun i d h => ?_, fun i d h => absurd h (no i d), fun i j d d' a h => absurd h (no i d), m.sto, m.stG, m.len, m.nd, ?_, fun i x h => ?_⟩
  · by_cases hi : i < ds.length
    · rw [List.getElem?_append_left (by simpa using hi), List.getElem?_map] at h
      cases e : ds[i]? with
      | none => rw [e] at h; cases h
      | some d0 =>
        rw [e] at h; cases h
        obtain ⟨v, hv, rv⟩ := r.get e
        refine ⟨v, ?_, rv⟩
        unfold L2.start
        rw [List.getElem?_append_left (by simpa [← r.length] using hi), List.getElem?_map, hv]
        rfl
    · rw [List.getElem?_append_right (by simpa using hi), List.getElem?_replicate] at h
      split at h <;> cases h
  · unfold L2.start
    rw [List.length_append, List.length_append, List.length_map, List.length_map, List.length_replicate, List.length_replicate, r.length]
  · exfalso
    have hm := List.mem_of_getElem? h
    rcases List.mem_append.mp hm with z | z
    · obtain ⟨_, _, e⟩ := List.mem_map.mp z; cases e
    · cases (List.eq_of_mem_replicate z)
theorem def_ok {x qual : Str} {st : Stmt} {f : Addr} {fd : FuncData} {N ps : List Str} {k : Nat} {δ : Ds} (F : Fun K x qual st f fd) (Sc : FnScope N ps (defScope st))
    (hbody : ∀ (cdv : Value) (A : Around) (outer : List Env) (s : Shared) (H : Hp) (E : XK), Room k (A.deeper (envOfC qual (defScope st) s.heap.objs.size f cdv)) →
      DSs (cxOf (L2.CX P w) P w K mg base N qual (defScope st) f cdv A outer s H E) cls (fun c d _ H => E c d H) (defBody st) δ) : FnOk P w K mg base (L2.CX P w) (k + 1) f fd ps (spD ⟨K, cls⟩ ps.length (bodyRun N.length δ)) := by
  refine F.okX Sc (fun vs H Q E h => ?_) (fun cdv A outer s H vs Q E hr h => ⟨_, hbody cdv A outer s H E hr, ?_⟩)
  · obtain ⟨_, _, _, _, _, _, h, _⟩ := h; exact h
  · obtain ⟨S, ρ, G, ds, m, r, hl, h⟩ := h
    refine ⟨⟨ρ, G, H, G, ρ, H⟩, _, S, ρ, G, ⟨start_mem m r, .refl, fun i d a h1 h2 => ?_, .refl, List.prefix_refl _, .refl⟩, ?_⟩
    · exfalso
      have hm := List.mem_of_getElem? h1
      rcases List.mem_append.mp hm with z | z
      · obtain ⟨_, _, e⟩ := List.mem_map.mp z; cases e
      · cases (List.eq_of_mem_replicate z)
    · unfold bodyRun at h
      cases q : δ (ds.map Sl.val ++ List.replicate (N.length - ds.length) Sl.non) S with
      | next Γ S' => rw [q] at h; exact fun ρ' G' H' σ' s' => h .non ρ' G' H' s'.mem.toS s'.nx (rep_non.mpr rfl)
      | ret d S' => rw [q] at h; exact fun v ρ' G' H' m' n' _ r' => h v ρ' G' H' m' n' r'
      | exc e Γ S' => rw [q] at h; exact fun c dx ρ' G' H' σ' s' er => h c dx ρ' G' H' s'.mem.toS s'.nx er
      | brk _ _ => rw [q] at h; exact h.elim
      | cont _ _ => rw [q] at h; exact h.elim
      | stuck => rw [q] at h; exact h.elim
end
/-! ### a call -/
section
variable {X : Cx} {cls : Nat → Addr} {W : WX} {k : Nat} {f : Addr} {fd : FuncData} {ps : List Str} {x : Str} {p pos : Pos} {e : Expr} {es : List Expr} {α : Da} {F : List D → List D → Res D}
theorem de_call (Fn : FnOk X.prog X.w X.K X.mg X.base (L2.CX X.prog X.w) k f fd ps (spD ⟨X.K, cls⟩ ps.length F)) (tk : Takes X W) (hr : Room k X.A) (hg : Gl X x) (hm : X.mg x = some (.ref f)) (hk : PySem.W.keepIn X.K (.ref f) = true) (hb : Binds X.K fd ps [])
    (ha : DA X cls W (e :: es) α) (hal : ALen α ps.length) (hdb : (x == ("__debug__" : Str)) = false := by decide) (he : starEach (e :: es) X.env = (false, eval e X.env) :: starEach es X.env := by rfl) (hpl : (backTo pos (starEach es X.env)).any (·.1) = false := by rfl) :
    DE X cls W (.Call (.Name x p) (e :: es) [] pos) (eCall F α) := PE.weak (pe_callS Fn hr hg hm hk hb (fun σ => passAt tk σ) ha hdb he hpl) fun σ H Q ⟨Γ, S, ρ, G, m, p⟩ => ⟨Γ, S, ρ, G, m, by
  unfold eCall at p
  cases q : α Γ S with
  | ok ds S1 =>
    rw [q] at p
    intro vs ρ1 G1 H1 m1 n1 r1
    refine ⟨S1, ρ1, G1, ds, m1.toS, r1, by rw [← r1.length]; exact hal.le _ _ _ _ q, ?_⟩
    simp only [Res.bind_ok] at p
    cases z : F ds S1 with
    | ok d S2 => rw [z] at p; exact fun v ρ2 G2 H2 m2 n2 r2 => p v ρ2 G2 H2 (m1.step n2 m2) (n1.trans n2) r2
    | exc x S2 => rw [z] at p; exact fun c dx ρ2 G2 H2 m2 n2 r2 => p c dx ρ2 G2 H2 (m1.step n2 m2) (n1.trans n2) r2
    | stuck => rw [z] at p; exact p
  | exc x S1 => rw [q] at p; exact p
  | stuck => rw [q] at p; exact p⟩
end
end DL

namespace DL
open PySem PySem.Spec PyProof.Rows L2

section
variable {C : Cn} {W : WX} {en : Ent} {Γ Γ' : List Sl} {S S' : List D} {ρ ρ' : List Addr} {G G' H H' : Hp} {σ σ' : L2.St} {a : Addr} {d d' : D} {k : Nat} {o : HO}
theorem ObAt.at {b : Addr} (h : ObAt C ρ G H b d) (ne : b ≠ a) : ObAt C ρ G (upd H a o) b d := h.mono .refl (List.prefix_refl _) fun u q => by rw [upd_ne ne]; exact q
/-- an object that no slot, no store and no settled data has -/
theorem Mem.aside (m : Mem C Γ S ρ G H σ) (hg : G a = none) (ht : NoTE (H a)) (hp : a ∉ ρ) (ho : ∀ (i : Nat) (d : D) (b : Addr), Γ[i]? = some (Sl.own d) → σ[i]? = some (some (V.ref b)) → b ≠ a) : Mem C Γ S ρ G (upd H a o) σ where
  sub := m.sub.upd hg ht
  val := m.val
  own := fun i d h => by
    obtain ⟨b, e, r, g, n⟩ := m.own i d h
    exact ⟨b, e, r.at (ho i d b h e), g, n⟩
  inj := m.inj
  sto := fun i d h => by
    obtain ⟨b, e, r⟩ := m.sto i d h
    exact ⟨b, e, r.at fun z => hp (z ▸ List.mem_of_getElem? e)⟩
  stG := m.stG
  len := m.len
  nd := m.nd
  wid := m.wid
  xcp := m.xcp
theorem Nx.aside (n : Nx ρ G H ρ' G' H') (h : H a = none) : Nx ρ G H ρ' G' (upd H' a o) := ⟨n.pre, n.ext, n.new, fun b u t q nb => by rw [upd_ne (ne_of_none q h)]; exact n.keep b u t q nb, fun b q => by
  by_cases e : b = a
  · subst e; exact h
  · rw [upd_ne e] at q; exact n.live b q, n.fre⟩
/-- the store's object is written -/
theorem Mem.poke (m : Mem C Γ S ρ G H σ) {d0 : D} (hk : S[k]? = some d0) (ha : ρ[k]? = some a) (r : ObAt C ρ G (upd H a o) a d') : Mem C Γ (S.set k d') ρ G (upd H a o) σ ∧ Nx ρ G H ρ G (upd H a o) := by
  have am : a ∈ ρ := List.mem_of_getElem? ha
  have hg : G a = none := m.stG a am
  obtain ⟨_, hb0, rb0⟩ := m.sto k d0 hk
  rw [ha] at hb0; cases hb0
  refine ⟨⟨m.sub.upd hg rb0.plain, m.val, fun i d h => ?_, m.inj, fun i d h => ?_, m.stG, by rw [List.length_set]; exact m.len, m.nd, m.wid, m.xcp⟩,
    ⟨List.prefix_refl _, .refl, fun _ _ h => .inl h, fun b u _ q nb => by rw [upd_ne (fun z => nb (by rw [z]; exact am))]; exact q, fun b q => ?_, fun _ h => .inl h⟩⟩
  · obtain ⟨b, e, q, g, n⟩ := m.own i d h
    exact ⟨b, e, q.at fun z => n (z ▸ am), g, n⟩
  · by_cases e : k = i
    · subst e
      have hl : k < S.length := (List.getElem?_eq_some_iff.mp hk).1
      rw [List.getElem?_set_self hl] at h; cases h
      exact ⟨a, ha, r⟩
    · rw [List.getElem?_set_ne e] at h
      obtain ⟨b, e2, q⟩ := m.sto i d h
      refine ⟨b, e2, q.at fun z => e ?_⟩
      subst z
      obtain ⟨h1, e3⟩ := List.getElem?_eq_some_iff.mp ha
      obtain ⟨h2, e4⟩ := List.getElem?_eq_some_iff.mp e2
      exact (List.getElem_inj m.nd).mp (e3.trans e4.symm)
  · by_cases e : b = a
    · subst e; rw [upd_same] at q; cases q
    · rw [upd_ne e] at q; exact q
/-- a slot's own object is written -/
theorem SI.poke (s : SI C en Γ S ρ G H σ) {i : Nat} {d0 : D} (hi : Γ[i]? = some (Sl.own d0)) (ha : σ[i]? = some (some (V.ref a))) (r : ObAt C ρ G (upd H a o) a d') : SI C en (Γ.set i (.own d')) S ρ G (upd H a o) σ := by
  obtain ⟨b, e, q, hg, hp⟩ := s.mem.own i d0 hi
  rw [ha] at e; cases e
  have hl : i < Γ.length := (List.getElem?_eq_some_iff.mp hi).1
  have he : en.H a = none := s.frs i d0 a hi ha
  have spl : ∀ (j : Nat) (x : Sl), (Γ.set i (Sl.own d'))[j]? = some x → (i = j ∧ x = .own d') ∨ (i ≠ j ∧ Γ[j]? = some x) := fun j x q => by
    by_cases z : i = j
    · subst z; rw [List.getElem?_set_self hl] at q; cases q; exact .inl ⟨rfl, rfl⟩
    · rw [List.getElem?_set_ne z] at q; exact .inr ⟨z, q⟩
  have back : ∀ (j : Nat) (d1 : D), (Γ.set i (Sl.own d'))[j]? = some (Sl.own d1) → ∃ d2, Γ[j]? = some (Sl.own d2) := fun j d1 h => by
    rcases spl j _ h with ⟨z, _⟩ | ⟨_, y⟩
    · subst z; exact ⟨_, hi⟩
    · exact ⟨_, y⟩
  refine ⟨⟨s.mem.sub.upd hg q.plain, fun j d1 h => ?_, fun j d1 h => ?_, fun j l d1 d2 b h1 h2 e1 e2 => ?_, fun j d1 h => ?_, s.mem.stG, s.mem.len, s.mem.nd, by rw [List.length_set]; exact s.mem.wid, fun j x h => by
    rcases spl j _ h with ⟨_, y⟩ | ⟨_, y⟩
    · cases y
    · exact s.mem.xcp j x y⟩, s.nx.aside he, fun j d1 b h1 h2 => ?_, s.base, s.basr, fun b ob u h => by rw [upd_ne (fun z => q.nofrz (by rw [← z]; exact s.old _ _ _ h))]; exact s.old _ _ _ h⟩
  · rcases spl j _ h with ⟨_, y⟩ | ⟨_, y⟩
    · cases y
    · exact s.mem.val j d1 y
  · rcases spl j _ h with ⟨z, y⟩ | ⟨z, y⟩
    · subst z; cases y; exact ⟨a, ha, r, hg, hp⟩
    · obtain ⟨b, e1, q1, g1, n1⟩ := s.mem.own j d1 y
      exact ⟨b, e1, q1.at fun w => z (s.mem.inj i j d0 d1 b hi y (w ▸ ha) e1), g1, n1⟩
  · obtain ⟨_, y1⟩ := back j d1 h1
    obtain ⟨_, y2⟩ := back l d2 h2
    exact s.mem.inj j l _ _ b y1 y2 e1 e2
  · obtain ⟨b, e1, q1⟩ := s.mem.sto j d1 h
    exact ⟨b, e1, q1.at fun z => hp (z ▸ List.mem_of_getElem? e1)⟩
  · obtain ⟨_, y1⟩ := back j d1 h1
    exact s.frs j _ b y1 h2
end

section
variable {X : Cx} {cls : Nat → Addr} {W : WX} {st : Stmt} {sts : List Stmt} {e c a b : Expr} {pos : Pos} {δ δ1 δ2 : Ds} {ε ε1 ε2 δa : De} {τ : Dt}
/-- a new list that goes into the store -/
theorem de_box (h : DF X cls W e ε) : DE X cls W e (eBox ε) := PE.weak h fun σ H Q ⟨Γ, S, ρ, G, m, p⟩ => ⟨Γ, S, ρ, G, m, by
  unfold eBox at p
  cases q : ε Γ S with
  | ok d S1 =>
    rw [q] at p
    intro v ρ1 G1 H1 m1 n1 r1
    obtain ⟨a, rfl, na, h0, hg, r⟩ := r1
    have k : ρ1 <+: ρ1 ++ [a] := List.prefix_append _ _
    refine p _ (ρ1 ++ [a]) G1 H1 ⟨m1.sub, fun i d h => ?_, fun i d h => ?_, m1.inj, fun i d h => ?_, fun b hb => ?_, by rw [List.length_append, List.length_append, m1.len] <;> rfl, ?_, m1.wid, fun i x h => ⟨(m1.xcp i x h).1, (m1.xcp i x h).2.mono .refl k⟩⟩ ⟨n1.pre.trans k, n1.ext, n1.new, n1.keep, n1.live, fun b hb => ?_⟩ (rep_ptr.mpr ⟨a, ?_, rfl⟩)
    · obtain ⟨v, e, r⟩ := m1.val i d h
      exact ⟨v, e, r.mono .refl k⟩
    · obtain ⟨b, e, r, g, n⟩ := m1.own i d h
      obtain ⟨b0, e0, r0, _, _⟩ := m.own i d h
      rw [e] at e0; cases e0
      obtain ⟨u, hu⟩ := r0.some
      refine ⟨b, e, r.mono .refl k fun _ h => h, g, fun z => ?_⟩
      rcases List.mem_append.mp z with z | z
      · exact n z
      · rw [List.mem_singleton] at z
        rw [z, h0] at hu; cases hu
    · by_cases hi : i < S1.length
      · rw [List.getElem?_append_left hi] at h
        obtain ⟨b, e, r⟩ := m1.sto i d h
        exact ⟨b, by rw [List.getElem?_append_left (by rw [m1.len]; exact hi)]; exact e, r.mono .refl k fun _ h => h⟩
      · rw [List.getElem?_append_right (by omega)] at h
        have e0 : i - S1.length = 0 := by
          have := (List.getElem?_eq_some_iff.mp h).1
          simp only [List.length_singleton] at this; omega
        rw [e0] at h
        cases h
        have e1 : i = ρ1.length := by rw [m1.len]; omega
        subst e1
        exact ⟨a, by rw [List.getElem?_append_right (Nat.le_refl _), Nat.sub_self] <;> rfl, r.mono .refl k fun _ h => h⟩
    · rcases List.mem_append.mp hb with z | z
      · exact m1.stG b z
      · rw [List.mem_singleton] at z; subst z; exact hg
    · rw [List.nodup_append]
      refine ⟨m1.nd, by simp, fun x hx y hy => ?_⟩
      rw [List.mem_singleton] at hy; subst hy
      exact fun z => na (z ▸ hx)
    · rcases List.mem_append.mp hb with z | z
      · exact n1.fre b z
      · rw [List.mem_singleton] at z; subst z; exact .inr h0
    · rw [← m1.len, List.getElem?_append_right (Nat.le_refl _), Nat.sub_self] <;> rfl
  | exc x S1 => rw [q] at p; exact p
  | stuck => rw [q] at p; exact p⟩
/-! ### lists that change -/
theorem own_at {C : Cn} {en : Ent} {Γ : List Sl} {S : List D} {ρ : List Addr} {G H : Hp} {σ : L2.St} (s : SI C en Γ S ρ G H σ) {i : Nat} {xs : List D} (h : Γ[i]? = some (.own (.lst xs))) : ∃ a vs, σ[i]? = some (some (V.ref a)) ∧ H a = some (.lst vs) ∧ Reps C ρ G xs vs ∧ G a = none ∧ a ∉ ρ := by
  obtain ⟨a, e, ⟨vs, h1, r⟩, g, n⟩ := s.mem.own i _ h
  exact ⟨a, vs, e, h1, r, g, n⟩
/-- found.append(e) -/
def sAppO (i : Nat) (e : De) : Ds := fun Γ S => match Γ[i]? with
  | some (.own (.lst xs)) => after (e Γ S) Γ fun d S1 => if xs.length < sizeLine then .next (Γ.set i (.own (.lst (xs ++ [d])))) S1 else .stuck
  | _ => .stuck
theorem ds_appO (i : Nat) (h : PE X c (tBM X.K "list" rAppend (tVar i) (tCons (tE ⟨X.K, cls⟩ W (RS ⟨X.K, cls⟩) ε) tNil))) (hs : swapsWith c none pos.line X.env = pure false := by rfl) : DS X cls W (.Expr c pos) (sAppO i ε) :=
  PS.weak (ps_expr h hs) fun D σ H ⟨en, Γ, S, ρ, G, s, p⟩ => by
    unfold sAppO at p
    split at p
    · rename_i xs hx
      obtain ⟨a, vs, e, h1, r, g, n⟩ := own_at s hx
      refine ⟨_, e, .inl ⟨rfl, vs, SqL.of h1⟩, Γ, S, ρ, G, s.mem, post_after s p fun d S1 ρ1 G1 H1 v m1 n1 s1 r1 p1 => ?_⟩
      obtain ⟨a', vs', e', h1', r', g', n'⟩ := own_at s1 hx
      rw [e] at e'; cases e'
      split at p1
      · rename_i hl
        refine ⟨a, vs', v, rfl, rfl, h1', by rw [← r'.length]; exact hl, ?_⟩
        exact p1 _ _ _ _ (s1.poke hx e ⟨_, upd_same, r'.append (.cons r1 .nil)⟩)
      · exact p1.elim
    · exact p.elim
/-- found[k] = e -/
def sSetO (i : Nat) (k e : De) : Ds := fun Γ S => after (e Γ S) Γ fun d S1 => match Γ[i]? with
  | some (.own (.lst xs)) => after (k Γ S1) Γ fun x S2 => match (asI x).bind (ixN xs.length) with
    | some j => .next (Γ.set i (.own (.lst (xs.set j d)))) S2
    | none => .stuck
  | _ => .stuck
theorem Reps.setv {C : Cn} {ρ : List Addr} {G : Hp} {d : D} {v : V} {xs : List D} {vs : List V} (r : Reps C ρ G xs vs) (k : Rep C ρ G d v) (j : Nat) : Reps C ρ G (xs.set j d) (vs.set j v) := Reps.set k j r
theorem ds_setO (i : Nat) {tg : Expr} (hg : PG X tg (gSub (tVar i) (tE ⟨X.K, cls⟩ W (RS ⟨X.K, cls⟩) ε1) rSetL)) (he : DE X cls W e ε2) (hs : swapsWithSole [tg] e pos.line X.env = pure false := by rfl) (hw : swappedStores [tg] e X.env = pure none := by rfl) (h1 : (assignEach [tg] X.env).map (·.2) = [assign tg X.env] := by rfl) :
    DS X cls W (.Assign [tg] e pos) (sSetO i ε1 ε2) := PS.weak (ps_asg he hg hs hw h1) fun D σ H ⟨en, Γ, S, ρ, G, s, p⟩ => ⟨Γ, S, ρ, G, s.mem, post_after s p fun d S1 ρ1 G1 H1 v m1 n1 s1 r1 p1 => by
  split at p1
  · rename_i xs hx
    obtain ⟨a, vs, e, h1, r, g, n⟩ := own_at s1 hx
    refine ⟨_, e, Γ, S1, ρ1, G1, s1.mem, post_after s1 p1 fun d2 S2 ρ2 G2 H2 v2 m2 n2 s2 r2 p2 => ?_⟩
    obtain ⟨a', vs', e', h1', r', g', n'⟩ := own_at s2 hx
    rw [e] at e'; cases e'
    cases d2 with
    | int k =>
      have ek := rep_int.mp r2
      subst ek
      split at p2
      · rename_i j hj
        exact ⟨a, vs', k, j, rfl, rfl, h1', by rw [← r'.length]; exact hj, p2 _ _ _ _ (s2.poke hx e ⟨_, upd_same, r'.setv (r1.mono n2.ext n2.pre) j⟩)⟩
      · exact p2.elim
    | _ => exact p2.elim
  · exact p1.elim⟩
/-! .. in the store -/
def sSetP (o k e : De) : Ds := fun Γ S => after (e Γ S) Γ fun d S1 => after (o Γ S1) Γ fun x S2 => after (k Γ S2) Γ fun y S3 => match x with
  | .ptr q => match S3[q]? with
    | some (.lst xs) => match (asI y).bind (ixN xs.length) with
      | some j => .next Γ (S3.set q (.lst (xs.set j d)))
      | none => .stuck
    | _ => .stuck
  | _ => .stuck
theorem sto_at {C : Cn} {Γ : List Sl} {S : List D} {ρ : List Addr} {G H : Hp} {σ : L2.St} (m : Mem C Γ S ρ G H σ) {q : Nat} {v : V} {xs : List D} (r : Rep C ρ G (.ptr q) v) (h : S[q]? = some (.lst xs)) : ∃ a vs, v = V.ref a ∧ ρ[q]? = some a ∧ H a = some (.lst vs) ∧ Reps C ρ G xs vs := by
  obtain ⟨a, ha, rfl⟩ := rep_ptr.mp r
  obtain ⟨b, hb, vs, h1, h2⟩ := m.sto q _ h
  rw [ha] at hb; cases hb
  exact ⟨a, vs, rfl, ha, h1, h2⟩
theorem ds_setP {tg : Expr} (hg : PG X tg (gSub (tE ⟨X.K, cls⟩ W (RS ⟨X.K, cls⟩) δa) (tE ⟨X.K, cls⟩ W (RS ⟨X.K, cls⟩) ε1) rSetL)) (he : DE X cls W e ε2) (hs : swapsWithSole [tg] e pos.line X.env = pure false := by rfl) (hw : swappedStores [tg] e X.env = pure none := by rfl) (h1 : (assignEach [tg] X.env).map (·.2) = [assign tg X.env] := by rfl) :
    DS X cls W (.Assign [tg] e pos) (sSetP δa ε1 ε2) := PS.weak (ps_asg he hg hs hw h1) fun D σ H ⟨en, Γ, S, ρ, G, s, p⟩ =>
  ⟨Γ, S, ρ, G, s.mem, post_after s p fun d S1 ρ1 G1 H1 v m1 n1 s1 r1 p1 => ⟨Γ, S1, ρ1, G1, s1.mem, post_after s1 p1 fun dx S2 ρ2 G2 H2 x m2 n2 s2 r2 p2 => ⟨Γ, S2, ρ2, G2, s2.mem, post_after s2 p2 fun dy S3 ρ3 G3 H3 y m3 n3 s3 r3 p3 => by
    cases dx with
    | ptr q =>
      simp only at p3
      split at p3
      · rename_i xs hx
        obtain ⟨a, vs, rfl, ha, h1, rr⟩ := sto_at m3 (Rep.mono n3.ext n3.pre _ _ r2) hx
        cases dy with
        | int k =>
          have ek := rep_int.mp r3
          subst ek
          split at p3
          · rename_i j hj
            obtain ⟨m4, n4⟩ := m3.poke (a := a) (o := .lst (vs.set j v)) (d' := .lst (xs.set j d)) hx ha ⟨_, upd_same, rr.setv ((r1.mono n2.ext n2.pre).mono n3.ext n3.pre) j⟩
            exact ⟨a, vs, k, j, rfl, rfl, h1, by rw [← rr.length]; exact hj, p3 _ _ _ _ (s3.step m4 n4)⟩
          · exact p3.elim
        | _ => exact p3.elim
      · exact p3.elim
    | _ => exact p3.elim⟩⟩⟩
/-! ### x += e -/
def sAug (i : Nat) (f : D → D → Option D) (e : De) : Ds := fun Γ S => match Γ[i]? with
  | some (.val dx) => after (e Γ S) Γ fun dy S1 => match f (deref S1 dx) (deref S1 dy) with
    | some d => .next (Γ.set i (.val d)) S1
    | none => .stuck
  | _ => .stuck
theorem ds_aug {i : Nat} {x : Str} {op : Operator} {R : R2} {f : D → D → Option D} {pos' : Pos} (hN : X.N.Nodup) (hi : X.N[i]? = some x) (hx : Loc X.env.scope x) (he : DE X cls W e ε) (ho : OpR X (inplaceOp op) R) (hf : R2Ok ⟨X.K, cls⟩ (RS ⟨X.K, cls⟩) R f)
    (hfn : X.fn x = true ∨ X.env.scope.names.lookup x = some .local := by first | exact .inl rfl | exact .inr rfl | assumption) : DS X cls W (.AugAssign (.Name x pos') op e pos) (sAug i f ε) :=
  PS.weak (ps_aug (ti := R) hN hi hx he (fun pins s σ H x y v u Q I rx ry h => ho pins s σ H x y v u Q I rx ry h) hfn) fun D σ H ⟨en, Γ, S, ρ, G, s, p⟩ => by
    unfold sAug at p
    split at p
    · rename_i dx hx
      obtain ⟨v, e, r⟩ := s.mem.val i dx hx
      refine ⟨v, e, Γ, S, ρ, G, s.mem, post_after s p fun dy S1 ρ1 G1 H1 y m1 n1 s1 r1 p1 => ?_⟩
      split at p1
      · rename_i d hd
        exact hf S1 ρ1 G1 H1 v y d _ _ _ m1.toS (m1.read (H0 := H1) (.inl (r.mono n1.ext n1.pre))) (m1.read (H0 := H1) (.inl r1)) hd fun z ρ2 G2 H2 m2 n2 r2 => p1 _ _ _ _ ((s1.step (m1.step n2 m2) n2).setv i r2)
      · exact p1.elim
    · exact p.elim
def dAddI : D → D → Option D
  | .int i, .int j => some (.int (i + j))
  | .str a, .str b => if a.length + b.length ≤ sizeLine then some (.str (a ++ b)) else none
  | _, _ => none
theorem iop_addA : OpR X (inplaceOp .Add) (fun x y H Q => rI0 (fun i j => .int (i + j)) x y H Q ∨ ∃ i j, x = .str i ∧ y = .str j ∧ i.length + j.length ≤ sizeLine ∧ Q (.str (i ++ j)) H) := iop_add.or iop_add_str
theorem ok_addI {C : Cn} : R2Ok C (RS C) (fun x y H Q => rI0 (fun i j => .int (i + j)) x y H Q ∨ ∃ i j, x = .str i ∧ y = .str j ∧ i.length + j.length ≤ sizeLine ∧ Q (.str (i ++ j)) H) dAddI := ok_I0.or (g := dAddI) ok_S fun a b d h => by
  cases a <;> cases b <;> first | exact .inl h | exact .inr h | cases h
theorem ok_subI {C : Cn} : R2Ok C (RS C) (rI0 fun i j => .int (i - j)) fSub := ok_I0

/-! ### targets of loops -/
inductive Pat where
  | nm (i : Nat) | tp (ps : List Pat) | ul (ps : List Pat)
mutual
def Pat.bind : Pat → D → List Sl → Option (List Sl)
  | .nm i, d, Γ => some (Γ.set i (.val d))
  | .tp ps, .tup ds, Γ => Pat.binds ps ds Γ
  | .tp _, _, _ => none
  | .ul ps, .lst ds, Γ => Pat.binds ps ds Γ
  | .ul _, _, _ => none
def Pat.binds : List Pat → List D → List Sl → Option (List Sl)
  | [], [], Γ => some Γ
  | p :: ps, d :: ds, Γ => match p.bind d Γ with
    | some Γ' => Pat.binds ps ds Γ'
    | none => none
  | [], _ :: _, _ => none
  | _ :: _, [], _ => none
end
mutual
def Pat.g (K : PySem.W.Frag) : Pat → TG
  | .nm i => gName i
  | .tp ps => gTup K ps.length (Pat.gs K ps)
  | .ul ps => gUnl K ps.length (Pat.gs K ps)
def Pat.gs (K : PySem.W.Frag) : List Pat → TGs
  | [] => gNil
  | p :: ps => gCons (p.g K) (Pat.gs K ps)
end
mutual
def Pat.vars : Pat → List Nat
  | .nm i => [i]
  | .tp ps => Pat.varss ps
  | .ul ps => Pat.varss ps
def Pat.varss : List Pat → List Nat
  | [] => []
  | p :: ps => p.vars ++ Pat.varss ps
end
/-- what a binding keeps -/
def Kept (vs : List Nat) (σ σ' : L2.St) : Prop := σ'.length = σ.length ∧ ∀ j, j ∉ vs → σ'[j]? = σ[j]?
def BindOk (C : Cn) (g : (L2.St → Hp → Prop) → Prop) (Γ Γ' : List Sl) (S : List D) (ρ : List Addr) (G H : Hp) (σ : L2.St) (vs : List Nat) : Prop :=
  ∀ Q : L2.St → Hp → Prop, (∀ σ', Mem C Γ' S ρ G H σ' → (∀ en, SI C en Γ S ρ G H σ → SI C en Γ' S ρ G H σ') → Kept vs σ σ' → Q σ' H) → g Q
mutual
theorem Pat.ok {C : Cn} {S : List D} {ρ : List Addr} {G H : Hp} : ∀ (p : Pat) (d : D) (v : V) (Γ Γ' : List Sl) (σ : L2.St), Mem C Γ S ρ G H σ → Rep C ρ G d v → p.bind d Γ = some Γ' → BindOk C (p.g C.K v σ H) Γ Γ' S ρ G H σ p.vars
  | .nm i, d, v, Γ, Γ', σ, m, r, e, Q, q => by
    rw [Pat.bind] at e; cases e
    rw [Pat.g]
    exact q _ (m.setv i r) (fun en s => s.setv i r) ⟨by rw [List.length_set], fun j hj => by rw [Pat.vars, List.mem_singleton] at hj; rw [List.getElem?_set_ne (Ne.symm hj)]⟩
  | .tp ps, d, v, Γ, Γ', σ, m, r, e, Q, q => by
    cases d with
    | tup ds =>
      rw [Pat.bind] at e
      rw [Pat.g]
      obtain ⟨a, vs, rfl, h1, h2⟩ := rep_tup.mp r
      have hl : ds.length = ps.length := Pat.binds_len ps ds Γ Γ' e
      refine ⟨a, vs, rfl, m.sub.sqT h1, by rw [← h2.length, hl], ?_⟩
      exact Pat.oks ps ds vs Γ Γ' σ m h2 e Q q
    | _ => rw [Pat.bind] at e <;> first | cases e | simp
  | .ul ps, d, v, Γ, Γ', σ, m, r, e, Q, q => by
    cases d with
    | lst ds =>
      rw [Pat.bind] at e
      rw [Pat.g]
      obtain ⟨a, vs, rfl, h1, h2⟩ := rep_lst.mp r
      have hl : ds.length = ps.length := Pat.binds_len ps ds Γ Γ' e
      refine ⟨a, vs, rfl, SqL.of (m.sub.lst h1), by rw [← h2.length, hl], ?_⟩
      exact Pat.oks ps ds vs Γ Γ' σ m h2 e Q q
    | _ => rw [Pat.bind] at e <;> first | cases e | simp
theorem Pat.oks {C : Cn} {S : List D} {ρ : List Addr} {G H : Hp} : ∀ (ps : List Pat) (ds : List D) (vs : List V) (Γ Γ' : List Sl) (σ : L2.St), Mem C Γ S ρ G H σ → Reps C ρ G ds vs → Pat.binds ps ds Γ = some Γ' → BindOk C (Pat.gs C.K ps vs σ H) Γ Γ' S ρ G H σ (Pat.varss ps)
  | [], [], vs, Γ, Γ', σ, m, r, e, Q, q => by
    rw [Pat.binds] at e; cases e
    rw [Pat.gs]
    exact ⟨r.inv0, q σ m (fun _ s => s) ⟨rfl, fun _ _ => rfl⟩⟩
  | [], _ :: _, _, _, _, _, _, _, e, _, _ => by rw [Pat.binds] at e; cases e
  | _ :: _, [], _, _, _, _, _, _, e, _, _ => by rw [Pat.binds] at e; cases e
  | p :: ps, d :: ds, vs, Γ, Γ', σ, m, r, e, Q, q => by
    rw [Pat.binds] at e
    cases z : p.bind d Γ with
    | none => rw [z] at e; cases e
    | some Γ1 =>
      rw [z] at e
      obtain ⟨v, vr, rfl, r1, r2⟩ := r.inv
      rw [Pat.gs]
      refine ⟨v, vr, rfl, ?_⟩
      refine Pat.ok p d v Γ Γ1 σ m r1 z _ fun σ1 m1 s1 k1 => ?_
      refine Pat.oks ps ds vr Γ1 Γ' σ1 m1 r2 e Q fun σ2 m2 s2 k2 => q σ2 m2 (fun en s => s2 en (s1 en s)) ⟨k2.1.trans k1.1, fun j hj => ?_⟩
      rw [Pat.varss, List.mem_append] at hj
      rw [k2.2 j fun h => hj (.inr h), k1.2 j fun h => hj (.inl h)]
theorem Pat.binds_len : ∀ (ps : List Pat) (ds : List D) (Γ Γ' : List Sl), Pat.binds ps ds Γ = some Γ' → ds.length = ps.length
  | [], [], _, _, _ => rfl
  | [], _ :: _, _, _, e => by rw [Pat.binds] at e; cases e
  | _ :: _, [], _, _, e => by rw [Pat.binds] at e; cases e
  | p :: ps, d :: ds, Γ, Γ', e => by
    rw [Pat.binds] at e
    cases z : p.bind d Γ with
    | none => rw [z] at e; cases e
    | some Γ1 => rw [z] at e; rw [List.length_cons, List.length_cons, Pat.binds_len ps ds Γ1 Γ' e]
end
/-- a, b = e -/
def sBind (p : Pat) (e : De) : Ds := fun Γ S => after (e Γ S) Γ fun d S1 => match p.bind d Γ with | some Γ' => .next Γ' S1 | none => .stuck
theorem ds_bind {p : Pat} {tg : Expr} (he : DE X cls W e ε) (hg : PG X tg (p.g X.K)) (hs : swapsWithSole [tg] e pos.line X.env = pure false := by rfl) (hw : swappedStores [tg] e X.env = pure none := by rfl) (h1 : (assignEach [tg] X.env).map (·.2) = [assign tg X.env] := by rfl) : DS X cls W (.Assign [tg] e pos) (sBind p ε) :=
  PS.weak (ps_asg he hg hs hw h1) fun D σ H ⟨en, Γ, S, ρ, G, s, q⟩ => ⟨Γ, S, ρ, G, s.mem, post_after s q fun d S1 ρ1 G1 H1 v m1 n1 s1 r1 p1 => by
    split at p1
    · rename_i Γ' hb
      exact Pat.ok (C := ⟨X.K, cls⟩) p d v Γ Γ' σ m1 r1 hb _ fun σ' m' s' _ => p1 _ _ _ _ (s' en s1)
    · exact p1.elim⟩

/-! ### what is walked -/
structure SrcOk (C : Cn) (J : It) (xs : List D) (ρ0 : List Addr) (G0 H0 : Hp) : Prop where
  go : ∀ S ρ G H i, MemS C S ρ G H → Sub G0 G → ρ0 <+: ρ → Old H0 H → i < xs.length → J.go i H
  yld : ∀ S ρ G H i x H' d, MemS C S ρ G H → Sub G0 G → ρ0 <+: ρ → Old H0 H → xs[i]? = some d → J.yld i H x H' → ∃ G', MemS C S ρ G' H' ∧ Nx ρ G H ρ G' H' ∧ Rep C ρ G' d x
  stop : ∀ S ρ G H, MemS C S ρ G H → Sub G0 G → ρ0 <+: ρ → Old H0 H → J.stop xs.length H
def tI (C : Cn) (W : WX) (ι : Da) : TI := fun σ H R => ∃ Γ S ρ G, Mem C Γ S ρ G H σ ∧ match ι Γ S with
  | .ok xs S1 => ∀ J ρ1 G1 H1, Mem C Γ S1 ρ1 G1 H1 σ → Nx ρ G H ρ1 G1 H1 → SrcOk C J xs ρ1 G1 H1 → R J H1
  | .exc e S1 => ∀ cls dx ρ' G' H', Mem C Γ S1 ρ' G' H' σ → Nx ρ G H ρ' G' H' → ExRep C ρ' G' H' e cls dx → W cls dx σ H'
  | .stuck => False
def DI (X : Cx) (cls : Nat → Addr) (W : WX) (tg iter : Expr) (ι : Da) : Prop := PI X tg iter (tI ⟨X.K, cls⟩ W ι)
theorem PI.weak {X : Cx} {tg iter : Expr} {t t' : TI} (h : PI X tg iter t) (i : ∀ σ H R, t' σ H R → t σ H R) : PI X tg iter t' := ⟨fun pins s σ H Q I h' => h.run pins s σ H Q I (i σ H Q h')⟩
def asL : D → Option (List D) | .lst xs => some xs | _ => none
def asT : D → Option (List D) | .tup xs => some xs | _ => none
def iL (a : De) : Da := fun Γ S => (a Γ S).bind fun x S1 => ofO (asL x) S1
def iT (a : De) : Da := fun Γ S => (a Γ S).bind fun x S1 => ofO (asT x) S1
def rangeD (lo : Int) (n : Nat) : List D := (List.range n).map fun (k : Nat) => .int (lo + k)
def inR (i : Int) : Bool := decide (-(2 ^ 62) ≤ i ∧ i < 2 ^ 62)
def iR1 (a : De) : Da := fun Γ S => (a Γ S).bind fun x S1 => match asI x with | some j => if inR j then .ok (rangeD 0 j.toNat) S1 else .stuck | none => .stuck
def iR2 (a b : De) : Da := fun Γ S => (a Γ S).bind fun x S1 => (b Γ S1).bind fun y S2 => match asI x, asI y with | some i, some j => if inR i ∧ inR j then .ok (rangeD i (j - i).toNat) S2 else .stuck | _, _ => .stuck
variable {tg : Expr} {p : Pos}
theorem src_list {C : Cn} {a : Addr} {xs : List D} {vs : List V} {ρ0 : List Addr} {G0 H0 : Hp} (h : G0 a = some (.lst vs)) (q : Reps C ρ0 G0 xs vs) : SrcOk C (Itl C.K a) xs ρ0 G0 H0 where
  go := fun S ρ G H i m s _ _ hi => ⟨vs, vs[i]'(by rw [← q.length]; exact hi), SqL.of (m.sub.lst (s _ _ h)), List.getElem?_eq_getElem _⟩
  yld := fun S ρ G H i x H' d m s pr _ hd y => by
    obtain ⟨rfl, y⟩ := y
    obtain ⟨v, hv, rv⟩ := q.get hd
    have e := y vs (SqL.of (m.sub.lst (s _ _ h)))
    rw [hv] at e; cases e
    exact ⟨G, m, .refl, rv.mono s pr⟩
  stop := fun S ρ G H m s _ _ => ⟨vs, SqL.of (m.sub.lst (s _ _ h)), by rw [q.length]; exact Nat.le_refl _⟩
theorem src_tup {C : Cn} {a : Addr} {xs : List D} {vs : List V} {ρ0 : List Addr} {G0 H0 : Hp} (h : SqT C.K G0 a vs) (q : Reps C ρ0 G0 xs vs) : SrcOk C (Itt C.K a) xs ρ0 G0 H0 where
  go := fun S ρ G H i m s _ _ hi => ⟨vs, vs[i]'(by rw [← q.length]; exact hi), (m.sub.back s).sqT h, List.getElem?_eq_getElem _⟩
  yld := fun S ρ G H i x H' d m s pr _ hd y => by
    obtain ⟨rfl, y⟩ := y
    obtain ⟨v, hv, rv⟩ := q.get hd
    have e := y vs ((m.sub.back s).sqT h)
    rw [hv] at e; cases e
    exact ⟨G, m, .refl, rv.mono s pr⟩
  stop := fun S ρ G H m s _ _ => ⟨vs, (m.sub.back s).sqT h, by rw [q.length]; exact Nat.le_refl _⟩
theorem src_range {C : Cn} {lo : Int} {n : Nat} {ρ0 : List Addr} {G0 H0 : Hp} : SrcOk C (Itr lo n) (rangeD lo n) ρ0 G0 H0 where
  go := fun S ρ G H i m s _ _ hi => by
    unfold rangeD at hi
    rw [List.length_map, List.length_range] at hi; exact hi
  yld := fun S ρ G H i x H' d m s pr _ hd y => by
    obtain ⟨rfl, rfl⟩ := y
    unfold rangeD at hd
    rw [List.getElem?_map] at hd
    cases z : (List.range n)[i]? with
    | none => rw [z] at hd; cases hd
    | some k =>
      rw [z] at hd; cases hd
      have e := (List.getElem?_eq_some_iff.mp z).2
      rw [List.getElem_range] at e
      subst e
      exact ⟨G, m, .refl, rep_int.mpr rfl⟩
  stop := fun S ρ G H m s _ _ => by
    unfold rangeD
    rw [List.length_map, List.length_range]; exact Nat.le_refl _
theorem x_iter {δ : De} {f : D → Option (List D)} {R : It → Hp → Prop} {σ : L2.St} {H : Hp} (h : tI ⟨X.K, cls⟩ W (fun Γ S => (δ Γ S).bind fun x S1 => ofO (f x) S1) σ H R) : ∃ Γ S ρ G, Mem ⟨X.K, cls⟩ Γ S ρ G H σ ∧ Post ⟨X.K, cls⟩ W (RS ⟨X.K, cls⟩) Γ ρ G H σ (δ Γ S) fun v H1 =>
    ∃ d xs ρ1 G1, Rep ⟨X.K, cls⟩ ρ1 G1 d v ∧ f d = some xs ∧ SubH ⟨X.K, cls⟩ G1 H1 ∧ ∀ J, SrcOk ⟨X.K, cls⟩ J xs ρ1 G1 H1 → R J H1 := by
  obtain ⟨Γ, S, ρ, G, m, p⟩ := h
  refine ⟨Γ, S, ρ, G, m, ?_⟩
  dsimp only at p
  cases q : δ Γ S with
  | ok d S1 =>
    rw [q] at p
    simp only [Res.bind_ok] at p
    cases z : f d with
    | none => rw [z] at p; exact p.elim
    | some xs =>
      rw [z] at p
      exact fun v ρ1 G1 H1 m1 n1 r1 => ⟨d, xs, ρ1, G1, r1, z, m1.sub, fun J sk => p J ρ1 G1 H1 m1 n1 sk⟩
  | exc x S1 => rw [q] at p; exact p
  | stuck => rw [q] at p; exact p
theorem di_l (h : DE X cls W e ε) : DI X cls W tg e (iL ε) := PI.weak (pi_list h) fun σ H R h => by
  obtain ⟨Γ, S, ρ, G, m, p⟩ := x_iter h
  refine ⟨Γ, S, ρ, G, m, p.mono fun v H1 ⟨d, xs, ρ1, G1, r, hd, s, k⟩ => ?_⟩
  cases d <;> try cases hd
  obtain ⟨a, vs, rfl, h1, h2⟩ := rep_lst.mp r
  exact ⟨a, rfl, ⟨vs, SqL.of (s.lst h1)⟩, k _ (src_list h1 h2)⟩
theorem di_t (h : DE X cls W e ε) : DI X cls W tg e (iT ε) := PI.weak (pi_tup h) fun σ H R h => by
  obtain ⟨Γ, S, ρ, G, m, p⟩ := x_iter h
  refine ⟨Γ, S, ρ, G, m, p.mono fun v H1 ⟨d, xs, ρ1, G1, r, hd, s, k⟩ => ?_⟩
  cases d <;> try cases hd
  obtain ⟨a, vs, rfl, h1, h2⟩ := rep_tup.mp r
  exact ⟨a, rfl, ⟨vs, s.sqT h1⟩, k _ (src_tup h1 h2)⟩
theorem di_r1 (hg : Gl X "range") (hm : X.mg "range" = none) (ha : DE X cls W a ε) (he : starEach [a] X.env = (false, eval a X.env) :: starEach [] X.env := by rfl) (hs : starEach [a] X.env = [(false, eval a X.env)] := by rfl) :
    DI X cls W tg (.Call (.Name "range" p) [a] [] pos) (iR1 ε) := PI.weak (pi_range1 hg hm (pa_cons ha pa_nil he) hs) fun σ H R ⟨Γ, S, ρ, G, m, p⟩ => ⟨Γ, S, ρ, G, m, by
  unfold iR1 at p
  cases q : ε Γ S with
  | ok d S1 =>
    rw [q] at p
    simp only [Res.bind_ok] at p
    intro v ρ1 G1 H1 m1 n1 r1
    cases d with
    | int j =>
      simp only [asI] at p
      split at p
      · rename_i xs S2 z
        split at z
        · rename_i hj
          cases z
          have ev := rep_int.mp r1
          subst ev
          have hj2 := of_decide_eq_true hj
          exact ⟨j, rfl, hj2.1, hj2.2, p _ ρ1 G1 H1 m1 n1 src_range⟩
        · cases z
      · rename_i z
        split at z <;> cases z
      · exact p.elim
    | _ => exact p.elim
  | exc x S1 => rw [q] at p; exact p
  | stuck => rw [q] at p; exact p⟩
theorem di_r2 (hg : Gl X "range") (hm : X.mg "range" = none) (ha : DE X cls W a ε1) (hb : DE X cls W b ε2) (he : starEach [a, b] X.env = (false, eval a X.env) :: starEach [b] X.env := by rfl) (he2 : starEach [b] X.env = (false, eval b X.env) :: starEach [] X.env := by rfl)
    (hs : starEach [a, b] X.env = [(false, eval a X.env), (false, eval b X.env)] := by rfl) (hs2 : starEach [b] X.env = [(false, eval b X.env)] := by rfl) :
    DI X cls W tg (.Call (.Name "range" p) [a, b] [] pos) (iR2 ε1 ε2) := PI.weak (pi_range2 hg hm (pa_cons ha (pa_cons hb pa_nil he2) he) hs hs2) fun σ H R ⟨Γ, S, ρ, G, m, p⟩ => ⟨Γ, S, ρ, G, m, by
  unfold iR2 at p
  cases q : ε1 Γ S with
  | ok d S1 =>
    rw [q] at p
    simp only [Res.bind_ok] at p
    intro v ρ1 G1 H1 m1 n1 r1
    refine ⟨Γ, S1, ρ1, G1, m1, ?_⟩
    cases q2 : ε2 Γ S1 with
    | ok d2 S2 =>
      rw [q2] at p
      simp only [Res.bind_ok] at p
      intro v2 ρ2 G2 H2 m2 n2 r2
      cases d with
      | int i =>
        cases d2 with
        | int j =>
          simp only [asI] at p
          split at p
          · rename_i xs S2 z
            split at z
            · rename_i hj
              cases z
              have ev := rep_int.mp r1
              have ew := rep_int.mp r2
              subst ev ew
              have h1 := of_decide_eq_true hj.1
              have h2 := of_decide_eq_true hj.2
              exact ⟨i, j, rfl, ⟨h1.1, h1.2, h2.1, h2.2⟩, p _ ρ2 G2 H2 m2 (n1.trans n2) src_range⟩
            · cases z
          · rename_i z
            split at z <;> cases z
          · exact p.elim
        | _ => exact p.elim
      | _ => exact p.elim
    | exc x S2 => rw [q2] at p; exact fun c dx ρ' G' H' m' n' r' => p c dx ρ' G' H' m' (n1.trans n') r'
    | stuck => rw [q2] at p; exact p
  | exc x S1 => rw [q] at p; exact p
  | stuck => rw [q] at p; exact p⟩

/-! ### for -/
def forD (p : Pat) (kl : List Nat) (β : Ds) : List D → Ds
  | [], Γ, S => .next Γ S
  | x :: xs, Γ, S => match p.bind x Γ with
    | none => .stuck
    | some Γ1 => match β Γ1 S with
      | .next Γ2 S2 => forD p kl β xs (clr kl Γ2) S2
      | .cont Γ2 S2 => forD p kl β xs (clr kl Γ2) S2
      | .brk Γ2 S2 => .next (clr kl Γ2) S2
      | .ret d S2 => .ret d S2
      | .exc e Γ2 S2 => .exc e Γ2 S2
      | .stuck => .stuck
def sFor (ι : Da) (p : Pat) (kl : List Nat) (β : Ds) : Ds := fun Γ S => after (ι Γ S) Γ fun xs S1 => forD p kl β xs Γ S1
theorem SI.rebase {C : Cn} {en : Ent} {Γ : List Sl} {S : List D} {ρ R : List Addr} {G H B F : Hp} {σ : L2.St} (s : SI C { en with B := B, R := R, F := F } Γ S ρ G H σ) (h : Sub en.B B) (k : en.R <+: R) (f : Old en.F F) : SI C en Γ S ρ G H σ := ⟨s.mem, s.nx, s.frs, h.trans s.base, k.trans s.basr, f.trans s.old⟩
theorem SI.to {C : Cn} {en : Ent} {Γ : List Sl} {S : List D} {ρ : List Addr} {G H : Hp} {σ : L2.St} (s : SI C en Γ S ρ G H σ) : SI C { en with B := G, R := ρ, F := H } Γ S ρ G H σ := ⟨s.mem, s.nx, s.frs, .refl, List.prefix_refl _, .refl⟩
theorem PostS.rebase {C : Cn} {en : Ent} {B F : Hp} {R : List Addr} {Dn : Ends} (h : Sub en.B B) (k : en.R <+: R) (f : Old en.F F) : ∀ {o : Out}, PostS C W en Dn o → PostS C W { en with B := B, R := R, F := F } Dn o
  | .next Γ S, q => fun ρ G H σ s => q ρ G H σ (s.rebase h k f)
  | .brk Γ S, q => fun ρ G H σ s => q ρ G H σ (s.rebase h k f)
  | .cont Γ S, q => fun ρ G H σ s => q ρ G H σ (s.rebase h k f)
  | .ret d S, q => fun v ρ G H m n o r => q v ρ G H m n ⟨h.trans o.1, f.trans o.2⟩ r
  | .exc e Γ S, q => fun c dx ρ G H σ s => q c dx ρ G H σ (s.rebase h k f)
  | .stuck, q => q
theorem ds_for {iter : Expr} {body : List Stmt} {ι : Da} {p : Pat} {kl : List Nat} {β : Ds} (hp : PassesOwn (model X.prog X.w) X.A X.env X.xe) (hc : X.calm = true) (hi : DI X cls W tg iter ι) (hg : PG X tg (p.g X.K)) (hb : DSs X cls W body β)
    (hs : ∀ x, foldedSetIterable iter X.env x = pure x := by intro _; rfl) : DS X cls W (.For tg iter body [] pos) (sFor ι p kl β) := PS.weak (ps_for hp hc hi hg hb hs) fun Dn σ H ⟨en, Γ, S, ρ, G, s, q⟩ => ⟨Γ, S, ρ, G, s.mem, by
  unfold sFor at q
  cases z : ι Γ S with
  | exc x S1 => rw [z] at q; exact fun cls' dx ρ1 G1 H1 m n c => q cls' dx ρ1 G1 H1 σ (s.step m n) c
  | stuck => rw [z] at q; exact q.elim
  | ok xs S1 =>
    rw [z] at q
    simp only [after_ok] at q
    intro J ρ1 G1 H1 m1 n1 sk
    have s1 := s.step m1 n1
    have q1 := q.rebase (B := G1) (R := ρ1) (F := H1) s1.base s1.basr s1.old
    refine ⟨fun i m σ H => m = xs.length - i ∧ i ≤ xs.length ∧ ∃ Γ S ρ G, SI ⟨X.K, cls⟩ { en with B := G1, R := ρ1, F := H1 } Γ S ρ G H σ ∧ PostS ⟨X.K, cls⟩ W { en with B := G1, R := ρ1, F := H1 } Dn (forD p kl β (xs.drop i) Γ S),
      ⟨xs.length, by omega, Nat.zero_le _, Γ, S1, ρ1, G1, s1.to, q1⟩, fun i m σ H ⟨hm, hi, Γ, S, ρ, G, s, q⟩ => ?_⟩
    by_cases hlt : i < xs.length
    · rw [List.drop_eq_getElem_cons hlt] at q
      refine .inr ⟨sk.go S ρ G H i s.mem.toS s.base s.basr s.old hlt, fun σ' H' => ∃ Γ S ρ G, SI ⟨X.K, cls⟩ { en with B := G1, R := ρ1, F := H1 } Γ S ρ G H' σ' ∧ PostS ⟨X.K, cls⟩ W { en with B := G1, R := ρ1, F := H1 } Dn (forD p kl β (xs.drop (i + 1)) Γ S),
        fun σ' H' n => ⟨xs.length - (i + 1), by omega, rfl, hlt, n⟩, fun x H' y => ?_⟩
      obtain ⟨G', m', n', r'⟩ := sk.yld S ρ G H i x H' _ s.mem.toS s.base s.basr s.old (List.getElem?_eq_getElem hlt) y
      have mm := s.mem.step n' m'
      have s' := s.step mm n'
      rw [forD] at q
      cases hbd : p.bind xs[i] Γ with
      | none => rw [hbd] at q; exact q.elim
      | some Γ1 =>
        rw [hbd] at q
        refine Pat.ok (C := ⟨X.K, cls⟩) p xs[i] x Γ Γ1 σ mm r' hbd _ fun σ2 m2 sb kp => ?_
        refine ⟨_, Γ1, S, ρ, G', sb _ s', ?_⟩
        simp only at q
        cases hz : β Γ1 S with
        | next Γ2 S2 => rw [hz] at q; exact fun ρ3 G3 H3 σ3 s3 => ⟨_, S2, ρ3, G3, s3.clr, q⟩
        | cont Γ2 S2 => rw [hz] at q; exact fun ρ3 G3 H3 σ3 s3 => ⟨_, S2, ρ3, G3, s3.clr, q⟩
        | brk Γ2 S2 => rw [hz] at q; exact fun ρ3 G3 H3 σ3 s3 => q ρ3 G3 H3 σ3 s3.clr
        | ret d S2 => rw [hz] at q; exact q
        | exc e Γ2 S2 => rw [hz] at q; exact q
        | stuck => rw [hz] at q; exact q.elim
    · have e : i = xs.length := by omega
      subst e
      rw [List.drop_length, forD] at q
      exact .inl ⟨sk.stop S ρ G H s.mem.toS s.base s.basr s.old, q ρ G H σ s⟩⟩
/-- forgetting, as nothing of the program does it: ahead of a statement -/
def sClr (kl : List Nat) : Ds := fun Γ S => .next (clr kl Γ) S
theorem dss_clr (kl : List Nat) (h : DSs X cls W sts δ) : DSs X cls W sts (sSeq (sClr kl) δ) := PSs.weak h fun Dn σ H ⟨en, Γ, S, ρ, G, s, p⟩ => ⟨en, _, S, ρ, G, s.clr, p⟩

/-! ### while -/
def whileD (τ : Dt) (kl : List Nat) (β : Ds) : Nat → Ds
  | 0, _, _ => .stuck
  | n + 1, Γ, S => after (τ Γ S) Γ fun k S1 => if k then (match β Γ S1 with
      | .next Γ2 S2 => whileD τ kl β n (clr kl Γ2) S2
      | .cont Γ2 S2 => whileD τ kl β n (clr kl Γ2) S2
      | .brk Γ2 S2 => .next (clr kl Γ2) S2
      | .ret d S2 => .ret d S2
      | .exc e Γ2 S2 => .exc e Γ2 S2
      | .stuck => .stuck) else .next Γ S1
theorem ds_while {body : List Stmt} {kl : List Nat} {β : Ds} {n : Nat} (hp : PassesOwn (model X.prog X.w) X.A X.env X.xe) (hc : DT X cls W c τ) (hb : DSs X cls W body β) : DS X cls W (.While c body [] pos) (whileD τ kl β n) :=
  PS.weak (ps_while hp hc hb) fun Dn σ H ⟨en, Γ, S, ρ, G, s, q⟩ => by
    refine ⟨fun m σ H => ∃ Γ S ρ G, SI ⟨X.K, cls⟩ en Γ S ρ G H σ ∧ PostS ⟨X.K, cls⟩ W en Dn (whileD τ kl β m Γ S), ⟨n, Γ, S, ρ, G, s, q⟩, fun m σ H ⟨Γ, S, ρ, G, s, q⟩ => ?_⟩
    cases m with
    | zero => exact q.elim
    | succ m =>
      rw [whileD] at q
      refine ⟨Γ, S, ρ, G, s.mem, post_after s q fun k S1 ρ1 G1 H1 v m1 n1 s1 r1 p1 => ?_⟩
      have e1 : k = v := r1
      subst e1
      cases k with
      | false => exact iteF (p1 ρ1 G1 H1 σ s1)
      | true =>
        simp only [if_true] at p1
        refine iteT ⟨fun σ' H' => ∃ Γ S ρ G, SI ⟨X.K, cls⟩ en Γ S ρ G H' σ' ∧ PostS ⟨X.K, cls⟩ W en Dn (whileD τ kl β m Γ S), fun σ' H' n => ⟨m, by omega, n⟩, en, Γ, S1, ρ1, G1, s1, ?_⟩
        cases hz : β Γ S1 with
        | next Γ2 S2 => rw [hz] at p1; exact fun ρ3 G3 H3 σ3 s3 => ⟨_, S2, ρ3, G3, s3.clr, p1⟩
        | cont Γ2 S2 => rw [hz] at p1; exact fun ρ3 G3 H3 σ3 s3 => ⟨_, S2, ρ3, G3, s3.clr, p1⟩
        | brk Γ2 S2 => rw [hz] at p1; exact fun ρ3 G3 H3 σ3 s3 => p1 ρ3 G3 H3 σ3 s3.clr
        | ret d S2 => rw [hz] at p1; exact p1
        | exc e Γ2 S2 => rw [hz] at p1; exact p1
        | stuck => rw [hz] at p1; exact p1.elim
end
end DL

namespace DL
open PySem PySem.Spec PyProof.Rows L2

/-! ### list comprehensions -/
abbrev W0 : WX := fun _ _ _ _ => False
def wipeD (Γ : List Sl) : List Nat → List Sl
  | [] => Γ
  | v :: vs => (wipeD Γ vs).set v .non
theorem wipe_out2 {σ : L2.St} {j : Nat} : ∀ {vs : List Nat}, j ∉ vs → (L2.wipe σ vs)[j]? = σ[j]?
  | [], _ => rfl
  | v :: vs, h => by
    rw [List.mem_cons, not_or] at h
    unfold L2.wipe
    rw [List.getElem?_set_ne (Ne.symm h.1), wipe_out2 h.2]
theorem wipe_in {σ : L2.St} {j : Nat} (hl : j < σ.length) : ∀ {vs : List Nat}, j ∈ vs → (L2.wipe σ vs)[j]? = some none
  | v :: vs, h => by
    unfold L2.wipe
    by_cases e : v = j
    · subst e
      rw [List.getElem?_set_self (by rw [L2.wipe_length]; exact hl)]
    · rw [List.getElem?_set_ne e]
      rcases List.mem_cons.mp h with z | z
      · exact absurd z.symm e
      · exact wipe_in hl z
theorem wipe_eq {σ σ' : L2.St} {vs : List Nat} (hl : σ'.length = σ.length) (h : ∀ j, j ∉ vs → σ'[j]? = σ[j]?) : L2.wipe σ' vs = L2.wipe σ vs := by
  apply List.ext_getElem?
  intro j
  by_cases hj : j ∈ vs
  · by_cases hlt : j < σ.length
    · rw [wipe_in (by rw [hl]; exact hlt) hj, wipe_in hlt hj]
    · rw [List.getElem?_eq_none (by rw [L2.wipe_length]; omega), List.getElem?_eq_none (by rw [L2.wipe_length]; omega)]
  · rw [wipe_out2 hj, wipe_out2 hj, h j hj]
theorem wipeD_out {Γ : List Sl} {j : Nat} {x : Sl} (hx : x ≠ .non) : ∀ {vs : List Nat}, (wipeD Γ vs)[j]? = some x → Γ[j]? = some x ∧ j ∉ vs
  | [], h => ⟨h, by simp⟩
  | v :: vs, h => by
    unfold wipeD at h
    by_cases e : v = j
    · subst e
      by_cases hl : v < (wipeD Γ vs).length
      · rw [List.getElem?_set_self hl] at h; cases h; exact absurd rfl hx
      · rw [List.getElem?_eq_none (by simpa using hl)] at h; cases h
    · rw [List.getElem?_set_ne e] at h
      obtain ⟨h1, h2⟩ := wipeD_out hx h
      exact ⟨h1, by rw [List.mem_cons, not_or]; exact ⟨fun z => e z.symm, h2⟩⟩
theorem wipeD_val {Γ : List Sl} {j : Nat} {d : D} {vs : List Nat} (h : (wipeD Γ vs)[j]? = some (Sl.val d)) : Γ[j]? = some (Sl.val d) ∧ j ∉ vs := wipeD_out (by intro z; cases z) h
theorem wipeD_own {Γ : List Sl} {j : Nat} {d : D} {vs : List Nat} (h : (wipeD Γ vs)[j]? = some (Sl.own d)) : Γ[j]? = some (Sl.own d) ∧ j ∉ vs := wipeD_out (by intro z; cases z) h
theorem wipeD_len {Γ : List Sl} : ∀ {vs : List Nat}, (wipeD Γ vs).length = Γ.length
  | [] => rfl
  | v :: vs => by unfold wipeD; rw [List.length_set, wipeD_len]
theorem Mem.wipe {C : Cn} {Γ : List Sl} {S : List D} {ρ : List Addr} {G H : Hp} {σ : L2.St} (m : Mem C Γ S ρ G H σ) (vs : List Nat) : Mem C (wipeD Γ vs) S ρ G H (L2.wipe σ vs) where
  sub := m.sub
  val := fun i d h => by
    obtain ⟨h1, h2⟩ := wipeD_val h
    rw [wipe_out2 h2]; exact m.val i d h1
  own := fun i d h => by
    obtain ⟨h1, h2⟩ := wipeD_own h
    rw [wipe_out2 h2]; exact m.own i d h1
  inj := fun i j d d' a h k h2 k2 => by
    obtain ⟨h1, n1⟩ := wipeD_own h
    obtain ⟨k1, n2⟩ := wipeD_own k
    rw [wipe_out2 n1] at h2
    rw [wipe_out2 n2] at k2
    exact m.inj i j d d' a h1 k1 h2 k2
  sto := m.sto
  stG := m.stG
  len := m.len
  nd := m.nd
  wid := by rw [wipeD_len, L2.wipe_length]; exact m.wid
  xcp := fun i x h => by
    obtain ⟨h1, h2⟩ := wipeD_out (by intro z; cases z) h
    rw [wipe_out2 h2]; exact m.xcp i x h1
/-- in a comprehension nothing may be raised -/
def nox {α : Type} (r : Res α) : Res α := match r with | .exc _ _ => .stuck | r => r
@[simp] theorem nox_ok {α : Type} (a : α) (S : List D) : nox (.ok a S) = .ok a S := Eq.trans rfl rfl
@[simp] theorem nox_exc {α : Type} (e : Exn) (S : List D) : nox (.exc e S : Res α) = .stuck := Eq.trans rfl rfl
@[simp] theorem nox_stuck {α : Type} : nox (.stuck : Res α) = .stuck := Eq.trans rfl rfl
def compD (p : Pat) (τ : Dt) (ε : De) : List D → List Sl → List D → Res (List D)
  | [], _, S => .ok [] S
  | x :: xs, Γ, S => match p.bind x Γ with
    | none => .stuck
    | some Γ1 => (nox (τ Γ1 S)).bind fun k S1 => if k then (nox (ε Γ1 S1)).bind fun d S2 => (compD p τ ε xs Γ S2).bind fun ds S3 => .ok (d :: ds) S3 else compD p τ ε xs Γ S1
def lenOk (ds : List D) : Option D := if ds.length ≤ sizeLine then some (.lst ds) else none
def eComp (ι : Da) (p : Pat) (vs : List Nat) (τ : Dt) (ε : De) : De := fun Γ S => (ι Γ S).bind fun xs S1 => (compD p τ ε xs (wipeD Γ vs) S1).bind fun ds S2 => ofO (lenOk ds) S2
def tTrue : Dt := fun _ S => .ok true S
def DTs (X : Cx) (cls : Nat → Addr) (ifs : List Expr) (τ : Dt) : Prop := PTs X ifs (tT ⟨X.K, cls⟩ W0 τ)
theorem PTs.weak {X : Cx} {e : List Expr} {t t' : TT} (h : PTs X e t) (i : ∀ σ H Q, t' σ H Q → t σ H Q) : PTs X e t' := ⟨fun pins s σ H Q I h' => h.run pins s σ H Q I (i σ H Q h')⟩
section
variable {X : Cx} {cls : Nat → Addr} {W : WX} {e c : Expr} {τ : Dt}
theorem dts_nil : DTs X cls [] tTrue := PTs.weak pts_nil fun σ H Q ⟨Γ, S, ρ, G, m, p⟩ => p.at m rfl
theorem dts_one (h : DT X cls W0 c τ) : DTs X cls [c] τ := pts_one h
end
theorem nox_post {C : Cn} {α β : Type} {RV : RVT α β} {Γ : List Sl} {ρ : List Addr} {G H : Hp} {σ : L2.St} {r : Res α} {Q : β → Hp → Prop} (h : ∀ d S1, r = .ok d S1 → ∀ v ρ' G' H', Mem C Γ S1 ρ' G' H' σ → Nx ρ G H ρ' G' H' → RV H ρ' G' H' d v → Q v H') (hs : ∃ d S1, r = .ok d S1) : Post C W0 RV Γ ρ G H σ r Q := by
  obtain ⟨d, S1, rfl⟩ := hs
  exact h d S1 rfl

section
variable {X : Cx} {cls : Nat → Addr} {W : WX}
theorem x_comp {ι : Da} {p : Pat} {τ : Dt} {ε : De} {vs : List Nat} (hv : ∀ i ∈ p.vars, i ∈ vs) {σ : L2.St} {H : Hp} {Q : VK} (h : tE ⟨X.K, cls⟩ W (RF ⟨X.K, cls⟩) (eComp ι p vs τ ε) σ H Q) :
    tLc (tI ⟨X.K, cls⟩ W ι) (p.g X.K) (tT ⟨X.K, cls⟩ W0 τ) (tE ⟨X.K, cls⟩ W0 (RS ⟨X.K, cls⟩) ε) vs σ H Q := by
  obtain ⟨Γ, S, ρ, G, m, q⟩ := h
  refine ⟨Γ, S, ρ, G, m, ?_⟩
  unfold eComp at q
  cases z : ι Γ S with
  | exc x S1 => rw [z] at q; exact q
  | stuck => rw [z] at q; exact q
  | ok xs S1 =>
    rw [z] at q
    simp only [Res.bind_ok] at q
    intro J ρ1 G1 H1 m1 n1 sk D0 hD
    have hown : ∀ (i : Nat) (d : D) (b : Addr), Γ[i]? = some (Sl.own d) → σ[i]? = some (some (V.ref b)) → b ≠ D0 := fun i d b h1 h2 e => by
      obtain ⟨b', e', r', _⟩ := m1.own i d h1
      rw [h2] at e'; cases e'
      obtain ⟨o, ho⟩ := r'.some
      rw [e, hD] at ho; cases ho
    have hownw : ∀ (i : Nat) (d : D) (b : Addr), (wipeD Γ vs)[i]? = some (Sl.own d) → (L2.wipe σ vs)[i]? = some (some (V.ref b)) → b ≠ D0 := fun i d b h1 h2 => by
      obtain ⟨k1, k2⟩ := wipeD_own h1
      rw [wipe_out2 k2] at h2
      exact hown i d b k1 h2
    have gD : G1 D0 = none := by
      cases e : G1 D0 with
      | none => rfl
      | some o => obtain ⟨_, z⟩ := m1.sub.has e; rw [z] at hD; cases hD
    have pD : D0 ∉ ρ1 := fun e => by
      obtain ⟨i, hi⟩ := List.mem_iff_getElem?.mp e
      have hi2 : i < S1.length := by rw [← m1.len]; exact (List.getElem?_eq_some_iff.mp hi).1
      obtain ⟨a, ha, r⟩ := m1.sto i S1[i] (List.getElem?_eq_getElem hi2)
      rw [hi] at ha; cases ha
      obtain ⟨o, ho⟩ := r.some
      rw [ho] at hD; cases hD
    -- the state of the loop
    let Pv : Nat → Hp → Prop := fun i H => ∃ S ρ G acc accd, Mem ⟨X.K, cls⟩ Γ S ρ G H σ ∧ H D0 = some (.lst acc) ∧ Reps ⟨X.K, cls⟩ ρ G accd acc ∧ D0 ∉ ρ ∧ G D0 = none ∧ Nx ρ1 G1 H1 ρ G H ∧
      compD p τ ε xs (wipeD Γ vs) S1 = (compD p τ ε (xs.drop i) (wipeD Γ vs) S).bind fun ds S3 => .ok (accd ++ ds) S3
    refine ⟨fun i mm H => mm = xs.length - i ∧ i ≤ xs.length ∧ Pv i H, ⟨xs.length, by omega, Nat.zero_le _, S1, ρ1, G1, [], [], m1.aside gD (noTE_of hD) pD hown, upd_same, .nil, pD, gD, Nx.refl.aside hD, ?_⟩, fun i mm H ⟨hm, hi, S, ρ, G, acc, accd, ms, hacc, racc, pD', gD', nn, eqn⟩ => ?_⟩
    · rw [List.drop_zero]
      cases compD p τ ε xs (wipeD Γ vs) S1 <;> rfl
    · have sub1 : Sub G1 G := nn.ext
      by_cases hlt : i < xs.length
      · rw [List.drop_eq_getElem_cons hlt, compD] at eqn
        refine .inr ⟨sk.go S ρ G H i ms.toS sub1 nn.pre (old_of m1 nn) hlt, Pv (i + 1), fun H' n => ⟨xs.length - (i + 1), by omega, rfl, hlt, n⟩, fun x H' y => ?_⟩
        obtain ⟨G', m', n', r'⟩ := sk.yld S ρ G H i x H' _ ms.toS sub1 nn.pre (old_of m1 nn) (List.getElem?_eq_getElem hlt) y
        have mH' := ms.step n' m'
        have mw := mH'.wipe vs
        cases hbd : p.bind xs[i] (wipeD Γ vs) with
        | none => rw [hbd] at eqn; rw [eqn] at q; exact q.elim
        | some Γ1 =>
          rw [hbd] at eqn
          simp only at eqn
          refine Pat.ok (C := ⟨X.K, cls⟩) p xs[i] x (wipeD Γ vs) Γ1 (L2.wipe σ vs) mw r' hbd _ fun σ2 m2 _ kp => ⟨?_, Γ1, S, ρ, G', m2, ?_⟩
          · rw [wipe_eq kp.1 fun j hj => kp.2 j fun h => hj (hv j h), wipe_eq (L2.wipe_length σ vs) fun j hj => wipe_out2 hj]
          · -- the test
            cases zt : τ Γ1 S with
            | exc x2 S2 => rw [zt] at eqn; rw [eqn] at q; exact q.elim
            | stuck => rw [zt] at eqn; rw [eqn] at q; exact q.elim
            | ok k S2 =>
              rw [zt] at eqn
              simp only [nox_ok, Res.bind_ok] at eqn
              intro kv ρ2 G2 H2 mm2 nn2 rk
              have ek : k = kv := rk
              subst ek
              have nnH : Nx ρ G H ρ2 G2 H2 := n'.trans nn2
              have mg2 : Mem ⟨X.K, cls⟩ Γ S2 ρ2 G2 H2 σ := ms.step nnH mm2.toS
              cases k with
              | false =>
                simp only [Bool.false_eq_true, if_false] at eqn
                refine iteF ⟨S2, ρ2, G2, acc, accd, mg2, nnH.keep _ _ (fun _ z => nomatch z) hacc pD', Reps.mono nnH.ext nnH.pre _ _ racc, fun z => ?_, ?_, nn.trans nnH, eqn⟩
                · rcases nnH.fre _ z with z | z
                  · exact pD' z
                  · rw [hacc] at z; cases z
                · cases e : G2 D0 with
                  | none => rfl
                  | some o => rcases nnH.new _ _ e with z | z
                              · rw [gD'] at z; cases z
                              · rw [hacc] at z; cases z
              | true =>
                simp only [if_true] at eqn
                refine iteT ⟨Γ1, S2, ρ2, G2, mm2, ?_⟩
                cases ze : ε Γ1 S2 with
                | exc x3 S3 => rw [ze] at eqn; rw [eqn] at q; exact q.elim
                | stuck => rw [ze] at eqn; rw [eqn] at q; exact q.elim
                | ok d S3 =>
                  rw [ze] at eqn
                  simp only [nox_ok, Res.bind_ok] at eqn
                  intro dv ρ3 G3 H3 mm3 nn3 rd
                  have nn4 : Nx ρ G H ρ3 G3 H3 := nnH.trans nn3
                  have hacc3 : H3 D0 = some (.lst acc) := nn4.keep _ _ (fun _ z => nomatch z) hacc pD'
                  have pD3 : D0 ∉ ρ3 := fun z => by
                    rcases nn4.fre _ z with z | z
                    · exact pD' z
                    · rw [hacc] at z; cases z
                  have gD3 : G3 D0 = none := by
                    cases e : G3 D0 with
                    | none => rfl
                    | some o => rcases nn4.new _ _ e with z | z
                                · rw [gD'] at z; cases z
                                · rw [hacc] at z; cases z
                  have mg3 : Mem ⟨X.K, cls⟩ Γ S3 ρ3 G3 H3 σ := ms.step nn4 mm3.toS
                  have eqn2 : compD p τ ε xs (wipeD Γ vs) S1 = (compD p τ ε (xs.drop (i + 1)) (wipeD Γ vs) S3).bind fun ds S3 => .ok ((accd ++ [d]) ++ ds) S3 := by
                    rw [eqn]
                    cases compD p τ ε (xs.drop (i + 1)) (wipeD Γ vs) S3 with
                    | ok ds S4 => simp only [Res.bind_ok, List.append_assoc, List.singleton_append]
                    | exc _ _ => rfl
                    | stuck => rfl
                  refine ⟨acc, hacc3, ?_, S3, ρ3, G3, acc ++ [dv], accd ++ [d], mg3.aside gD3 (noTE_lst hacc3) pD3 hown, upd_same, (Reps.mono nn4.ext nn4.pre _ _ racc).append (.cons rd .nil), pD3, gD3, (nn.trans nn4).aside hD, eqn2⟩
                  rw [eqn2] at q
                  cases zz : compD p τ ε (xs.drop (i + 1)) (wipeD Γ vs) S3 with
                  | exc _ _ =>
                    exfalso
                    have : ∀ (xs : List D) (Γ : List Sl) (S : List D) e S', compD p τ ε xs Γ S ≠ .exc e S' := by
                      intro xs
                      induction xs with
                      | nil => intro Γ S e S' h; cases h
                      | cons x xs ih =>
                        intro Γ S e S' h
                        rw [compD] at h
                        cases a1 : p.bind x Γ with
                        | none => rw [a1] at h; cases h
                        | some Γ1 =>
                          rw [a1] at h
                          simp only at h
                          cases a2 : τ Γ1 S with
                          | exc _ _ => rw [a2] at h; cases h
                          | stuck => rw [a2] at h; cases h
                          | ok k S1 =>
                            rw [a2] at h
                            simp only [nox_ok, Res.bind_ok] at h
                            cases k with
                            | false => exact ih _ _ _ _ (by simpa using h)
                            | true =>
                              simp only [if_true] at h
                              cases a3 : ε Γ1 S1 with
                              | exc _ _ => rw [a3] at h; cases h
                              | stuck => rw [a3] at h; cases h
                              | ok d S2 =>
                                rw [a3] at h
                                simp only [nox_ok, Res.bind_ok] at h
                                cases a4 : compD p τ ε xs Γ S2 with
                                | ok _ _ => rw [a4] at h; cases h
                                | stuck => rw [a4] at h; cases h
                                | exc _ _ => exact ih _ _ _ _ a4
                    exact this _ _ _ _ _ zz
                  | stuck => rw [zz] at q; exact q.elim
                  | ok ds S4 =>
                    rw [zz] at q
                    simp only [Res.bind_ok] at q
                    unfold lenOk at q
                    split at q
                    · rename_i hl
                      rw [List.length_append, List.length_append, List.length_singleton] at hl
                      rw [← racc.length]; omega
                    · exact q.elim
      · have e : i = xs.length := by omega
        subst e
        refine .inl ⟨sk.stop S ρ G H ms.toS sub1 nn.pre (old_of m1 nn), ?_⟩
        rw [List.drop_length, compD] at eqn
        rw [eqn] at q
        simp only [Res.bind_ok, List.append_nil] at q
        unfold lenOk at q
        split at q
        · exact q _ ρ G H ms (n1.trans nn) ⟨D0, rfl, pD', n1.live _ hD, gD', acc, hacc, racc⟩
        · exact q.elim
theorem df_comp {elt tg iter : Expr} {ifs : List Expr} {scope : Scope} {own : List (Str × Nat)} {pos : Pos} {ι : Da} {p : Pat} {τ : Dt} {ε : De} (hc : X.calm = true) (hN : X.N.Nodup) (hi : DI X cls W tg iter ι) (ok : BlkOk X.N X.env.scope scope own) (hv : ∀ i ∈ p.vars, i ∈ own.map (·.2))
    (hg : ∀ (s : Shared) (H : Hp) (C : Addr) (cl : List (Str × Addr)) (fp : List Addr), PG (X.blk s H scope (compEnvC scope cl C X.env) fp) tg (p.g X.K)) (ht : ∀ (s : Shared) (H : Hp) (C : Addr) (cl : List (Str × Addr)) (fp : List Addr), DTs (X.blk s H scope (compEnvC scope cl C X.env) fp) cls ifs τ)
    (he : ∀ (s : Shared) (H : Hp) (C : Addr) (cl : List (Str × Addr)) (fp : List Addr), DE (X.blk s H scope (compEnvC scope cl C X.env) fp) cls W0 elt ε) (hs : ∀ x, foldedSetIterable iter X.env x = pure x := by intro _; rfl) :
    DF X cls W (.ListComp elt [⟨tg, iter, ifs, 0⟩] scope pos) (eComp ι p (own.map (·.2)) τ ε) := PE.weak (pe_lc (tt := tT ⟨X.K, cls⟩ W0 τ) (te := tE ⟨X.K, cls⟩ W0 (RS ⟨X.K, cls⟩) ε) hc hN hi ok hg ht he hs) fun σ H Q h => x_comp hv h
/-- name = [..]: settled | the slot's own -/
theorem ps_comp {i : Nat} {y : Str} {py : Pos} {elt tg iter : Expr} {ifs : List Expr} {scope : Scope} {own : List (Str × Nat)} {pos spos : Pos} {ι : Da} {p : Pat} {τ : Dt} {ε : De} (hc : X.calm = true) (hN : X.N.Nodup) (hy : X.N[i]? = some y) (hyl : X.env.scope.names.lookup y = some .local)
    (hsw : swapsWith (.ListComp elt [⟨tg, iter, ifs, 0⟩] scope pos) (some (.Name y py)) spos.line X.env = pure true) (hi : DI X cls W tg iter ι) (ok : BlkOk X.N X.env.scope scope own) (hv : ∀ i ∈ p.vars, i ∈ own.map (·.2))
    (hg : ∀ (s : Shared) (H : Hp) (C : Addr) (cl : List (Str × Addr)) (fp : List Addr), PG (X.blk s H scope (compEnvC scope cl C X.env) fp) tg (p.g X.K)) (ht : ∀ (s : Shared) (H : Hp) (C : Addr) (cl : List (Str × Addr)) (fp : List Addr), DTs (X.blk s H scope (compEnvC scope cl C X.env) fp) cls ifs τ)
    (he : ∀ (s : Shared) (H : Hp) (C : Addr) (cl : List (Str × Addr)) (fp : List Addr), DE (X.blk s H scope (compEnvC scope cl C X.env) fp) cls W0 elt ε) (hs : ∀ x, foldedSetIterable iter X.env x = pure x := by intro _; rfl) :
    PS X (.Assign [.Name y py] (.ListComp elt [⟨tg, iter, ifs, 0⟩] scope pos) spos) (tAsg (tE ⟨X.K, cls⟩ W (RF ⟨X.K, cls⟩) (eComp ι p (own.map (·.2)) τ ε)) (gName i)) := PS.weak (ps_setLc (tt := tT ⟨X.K, cls⟩ W0 τ) (te := tE ⟨X.K, cls⟩ W0 (RS ⟨X.K, cls⟩) ε) hc hN hy hyl hsw hi ok hg ht he hs) fun Dn σ H h => x_comp (Q := fun x H1 => gName i x σ H1 Dn.nx) hv h
theorem ds_setC {i : Nat} {st : Stmt} {ε : De} (h : PS X st (tAsg (tE ⟨X.K, cls⟩ W (RF ⟨X.K, cls⟩) ε) (gName i))) : DS X cls W st (sSet i ε) := PS.weak h fun D σ H ⟨en, Γ, S, ρ, G, s, p⟩ =>
  ⟨Γ, S, ρ, G, s.mem, post_after s p fun d S1 ρ1 G1 H1 v m n s1 r p1 => by
    obtain ⟨G2, m2, n2, r2⟩ := RF.settle s.mem n m r
    exact p1 _ _ _ _ ((s.step m2 n2).setv i r2)⟩
theorem ds_ownC {i : Nat} {st : Stmt} {ε : De} (h : PS X st (tAsg (tE ⟨X.K, cls⟩ W (RF ⟨X.K, cls⟩) ε) (gName i))) : DS X cls W st (sOwn i ε) := PS.weak h fun D σ H ⟨en, Γ, S, ρ, G, s, p⟩ =>
  ⟨Γ, S, ρ, G, s.mem, post_after s p fun d S1 ρ1 G1 H1 v m n s1 r p1 => by
    obtain ⟨a, rfl, na, h0, hg, r⟩ := r
    exact p1 _ _ _ _ (s.seto i n m na h0 hg r)⟩
end
end DL

namespace DL
open PySem PySem.Spec PyProof.Rows L2

/-! ### a list, a tuple or a text is walked -/
def iSeqA (K : PySem.W.Frag) (tl : TE) : TI := fun σ H R => tl σ H fun x H1 => (∃ a, x = .ref a ∧ (∃ xs, SqL K H1 a xs) ∧ R (Itl K a) H1) ∨ (∃ a, x = .ref a ∧ (∃ xs, SqT K H1 a xs) ∧ R (Itt K a) H1) ∨ ∃ z, x = .str z ∧ R (Its z) H1
theorem pi_any {X : Cx} {tg l : Expr} {tl : TE} (hl : PE X l tl) : PI X tg l (iSeqA X.K tl) := by
  refine ⟨fun pins s σ H R I h => ?_⟩
  refine thn (hl.run pins s σ H _ I h) fun v s1 ⟨x, H1, I1, r1, q1⟩ => ?_
  rcases q1 with ⟨a, e, ⟨xs, hq⟩, q⟩ | ⟨a, e, ⟨xs, hq⟩, q⟩ | ⟨z, e, q⟩
  · subst e
    cases r1
    obtain ⟨its, rv, p, hz⟩ := I1.list hq
    refine wpAny_pyIter_list p.isList ?_
    refine ⟨s1.heap.objs.size, [s1.heap.objs.size], _, _, H1, rfl, I1.kept (t' := s1.toks) fun b o e => Heap.get?_push_of_some _ e, turn_list a _, ⟨_, Heap.get?_push_size _ rfl, rfl, rfl⟩, fun b hb => ?_, q⟩
    have e : b = s1.heap.objs.size := by simpa using hb
    subst e
    exact I1.fpOk (Nat.le_refl _) (I1.hok.fresh (Nat.le_refl _))
  · subst e
    cases r1
    obtain ⟨its, rv, p, hz⟩ := I1.tuple hq
    refine wpAny_pyIter_tuple (show s1.heap.IsTuple a its.toArray from p) ?_
    refine ⟨s1.heap.objs.size, [s1.heap.objs.size], _, _, H1, rfl, I1.kept (t' := s1.toks) fun b o e => Heap.get?_push_of_some _ e, turn_tuple a _, ⟨_, Heap.get?_push_size _ rfl, rfl, rfl⟩, fun b hb => ?_, q⟩
    have e : b = s1.heap.objs.size := by simpa using hb
    subst e
    exact I1.fpOk (Nat.le_refl _) (I1.hok.fresh (Nat.le_refl _))
  · subst e
    obtain ⟨t, rfl⟩ := r1
    cases ha : z.cps.all (· < 128)
    · exact wpAny_pyIter_wide ha (pi_one (tk := s1.toks) I1 _ (turn_str _ z t "str_iterator" (.inr rfl)) ⟨_, Heap.get?_push_size _ rfl, rfl, rfl⟩ q)
    · exact wpAny_pyIter_ascii ha (pi_one (tk := s1.toks) I1 _ (turn_str _ z t "str_ascii_iterator" (.inl rfl)) ⟨_, Heap.get?_push_size _ rfl, rfl, rfl⟩ q)
def items : D → Option (List D)
  | .lst xs => some xs
  | .tup xs => some xs
  | .scr ns => some (ns.map .int)
  | .str z => some (z.cps.toList.map fun c => .str ⟨#[c]⟩)
  | _ => none
def iA (a : De) : Da := fun Γ S => (a Γ S).bind fun x S1 => ofO (items x) S1
theorem src_str {C : Cn} {z : Str} {ρ0 : List Addr} {G0 H0 : Hp} : SrcOk C (Its z) (z.cps.toList.map fun c => .str ⟨#[c]⟩) ρ0 G0 H0 where
  go := fun S ρ G H i m s _ _ hi => by
    show i < z.cps.size
    simpa using hi
  yld := fun S ρ G H i x H' d m s pr _ hd y => by
    obtain ⟨rfl, c, hc, rfl⟩ := y
    rw [List.getElem?_map, Array.getElem?_toList, hc] at hd
    cases hd
    exact ⟨G, m, .refl, rep_str.mpr rfl⟩
  stop := fun S ρ G H m s _ _ => by
    show z.cps.size ≤ _
    simp
theorem src_scr {C : Cn} {a : Addr} {ns : List Int} {ρ0 : List Addr} {G0 H0 : Hp} (h : SqL C.K G0 a (ns.map V.int)) : SrcOk C (Itl C.K a) (ns.map .int) ρ0 G0 H0 where
  go := fun S ρ G H i m s _ _ hi => ⟨ns.map V.int, (ns.map V.int)[i]'(by simpa using hi), (m.sub.back s).sqL h, List.getElem?_eq_getElem _⟩
  yld := fun S ρ G H i x H' d m s pr _ hd y => by
    obtain ⟨rfl, y⟩ := y
    have e := y _ ((m.sub.back s).sqL h)
    rw [List.getElem?_map] at hd e
    cases z : ns[i]? with
    | none => rw [z] at hd; cases hd
    | some n =>
      rw [z] at hd e
      cases hd; cases e
      exact ⟨G, m, .refl, rep_int.mpr rfl⟩
  stop := fun S ρ G H m s _ _ => ⟨ns.map V.int, (m.sub.back s).sqL h, by simp⟩
section
variable {X : Cx} {cls : Nat → Addr} {W : WX} {e tg : Expr} {ε : De}
theorem di_a (h : DE X cls W e ε) : DI X cls W tg e (iA ε) := PI.weak (pi_any h) fun σ H R h => by
  obtain ⟨Γ, S, ρ, G, m, p⟩ := x_iter h
  refine ⟨Γ, S, ρ, G, m, p.mono fun v H1 ⟨d, xs, ρ1, G1, r, hd, s, k⟩ => ?_⟩
  cases d <;> try cases hd
  · rw [rep_str] at r; subst r
    exact .inr (.inr ⟨_, rfl, k _ src_str⟩)
  · obtain ⟨a, vs, rfl, h1, h2⟩ := rep_lst.mp r
    exact .inl ⟨a, rfl, ⟨vs, SqL.of (s.lst h1)⟩, k _ (src_list h1 h2)⟩
  · obtain ⟨a, vs, rfl, h1, h2⟩ := rep_tup.mp r
    exact .inr (.inl ⟨a, rfl, ⟨vs, s.sqT h1⟩, k _ (src_tup h1 h2)⟩)
  · obtain ⟨a, rfl, h1⟩ := rep_scr.mp r
    exact .inl ⟨a, rfl, ⟨_, s.sqL h1⟩, k _ (src_scr h1)⟩
end
/-! ### names of the module -/
section
variable {X : Cx} {cls : Nat → Addr} {W : WX} {x : Str} {pos : Pos}
theorem de_gstr {z : Str} (hm : ∃ t : Tok, X.mg x = some (.str z t)) (hg : Gl X x := by rfl) (hd : (x == ("__debug__" : Str)) = false := by decide) : DE X cls W (.Name x pos) (eC (.str z)) := de_c (v := .str z) (pe_glob hg hm.choose_spec ⟨_, rfl⟩ hd) fun _ _ => rep_str.mpr rfl
theorem de_gint {z : Int} (hm : ∃ t : Tok, X.mg x = some (.int z t)) (hg : Gl X x := by rfl) (hd : (x == ("__debug__" : Str)) = false := by decide) : DE X cls W (.Name x pos) (eC (.int z)) := de_c (v := .int z) (pe_glob hg hm.choose_spec ⟨_, rfl⟩ hd) fun _ _ => rep_int.mpr rfl
/-- a written tuple of texts -/
inductive StrsV : List Str → List Value → Prop
  | nil : StrsV [] []
  | cons {z : Str} {t : Tok} {zs : List Str} {us : List Value} (h : StrsV zs us) : StrsV (z :: zs) (.str z t :: us)
theorem StrsV.vals : ∀ {zs : List Str} {us : List Value}, StrsV zs us → Vals (zs.map V.str) us
  | _, _, .nil => .nil
  | _, _, .cons (t := t) h => .cons ⟨t, rfl⟩ h.vals
theorem reps_strs {C : Cn} {ρ : List Addr} {G : Hp} : ∀ {zs : List Str}, Reps C ρ G (zs.map D.str) (zs.map V.str)
  | [] => .nil
  | z :: zs => .cons (rep_str.mpr rfl) reps_strs
theorem de_gtup {zs : List Str} (hm : ∃ a us dd n sl, X.mg x = some (.ref a) ∧ X.K.lookup a = some ⟨.type "tuple", dd, .seq us.toArray n, sl⟩ ∧ StrsV zs us ∧ us.length ≤ sizeLine)
    (hg : Gl X x := by rfl) (hd : (x == ("__debug__" : Str)) = false := by decide) : DE X cls W (.Name x pos) (eC (.tup (zs.map D.str))) := by
  obtain ⟨a, us, dd, n, sl, hm, hk, hu, hl⟩ := hm
  exact de_c (v := .ref a) (pe_glob hg hm rfl hd) fun ρ G => rep_tup.mpr ⟨a, zs.map V.str, rfl, .inr ⟨_, us.toArray, n, hk, rfl, rfl, by simpa using hl, hu.vals⟩, reps_strs⟩
end
def fuel : Nat := 1000000
/-! ### defs by the number of calls -/
abbrev Rec := Nat → List D → List D → Res D
section
variable {P : Program} {w : World} {K : PySem.W.Frag} {mg : Str → Option Value} {base : Heap} {cls : Nat → Addr}
theorem fn_stuck {k : Nat} {f : Addr} {fd : FuncData} {ps : List Str} {C : Cn} {F : List D → List D → Res D} (h : ∀ ds S, F ds S = .stuck) : FnOk P w K mg base (L2.CX P w) k f fd ps (spD C ps.length F) := by
  have no : ∀ vs H Q E, ¬ spD C ps.length F vs H Q E := fun vs H Q E h' => by
    obtain ⟨S, ρ, G, ds, _, _, _, z⟩ := h'
    rw [h] at z; exact z
  exact ⟨fun vs H Q E h => absurd h (no vs H Q E), fun A outer s H args us vs Q E _ _ _ _ h => absurd h (no vs H Q E)⟩
def spLaw (K : PySem.W.Frag) : Sp := fun vs H Q _ => ∃ (a : Addr) (ns : List Int), vs = [.ref a] ∧ SqL K H a (ns.map V.int) ∧ ns.length ≤ 63 ∧ ∀ H', Q (.bl true) H'
theorem law_imp {k : Nat} {f : Addr} {fd : FuncData} {ps : List Str} {F : List D → List D → Res D} (h : FnOk P w K mg base (L2.CX P w) k f fd ps (spD ⟨K, cls⟩ 1 F)) (h0 : ∀ i, cls (i + 1000) = 0) (hF : ∀ ns : List Int, ns.length ≤ 63 → ∃ S, F [.scr ns] [] = .ok (.bl true) S) :
    FnOk P w K mg base (L2.CX P w) k f fd ps (spLaw K) := h.imp fun vs H Q E ⟨a, ns, e, hS, hl, q⟩ => by
  subst e
  obtain ⟨S', hS'⟩ := hF ns hl
  refine ⟨[], [], H, [.scr ns], ⟨⟨fun a o h => ⟨o, h, .inl rfl⟩, fun i z => absurd (h0 i) z⟩, fun i d h => by simp at h, fun i d h => by simp at h, fun i j d d' a h => by simp at h, fun i d h => by simp at h, fun a h => by simp at h, rfl, List.nodup_nil, rfl, fun i x h => by simp at h⟩, .cons (rep_scr.mpr ⟨a, rfl, hS⟩) .nil, rfl, ?_⟩
  rw [hS']
  intro v ρ' G' H' m n r
  rw [rep_bl.mp r]
  exact q H'
end
end DL

namespace DL
open PySem PySem.Spec PyProof.Rows L2
/-! ### defs that run where no repr is under way -/
structure RoomG (k : Nat) (A : Around) : Prop extends Room k A where
  gd : A.guards = some []
theorem RoomG.deep {k : Nat} {A : Around} (r : RoomG (k + 1) A) (env : Env) : RoomG k (A.deeper env) := ⟨r.toRoom.deeper env, r.gd⟩
theorem RoomG.less {j k : Nat} {A : Around} (r : RoomG k A) (h : j ≤ k) : RoomG j A := ⟨r.toRoom.mono h, r.gd⟩
structure FnG (P : Program) (w : World) (K : PySem.W.Frag) (mg : Str → Option Value) (base : Heap) (k : Nat) (f : Addr) (fd : FuncData) (ps : List Str) (sp : Sp) : Prop where
  lng : ∀ vs H Q E, sp vs H Q E → vs.length = ps.length
  goes : ∀ (A : Around) (o : List Env) (s : Shared) (H : Hp) (ar : Args) (us : List Value) (vs : List V) (Q : VK) (E : XK), RoomG k A → Env0 P w K mg base A o s H → BindsTo s fd ar (ps.zip us) → Vals vs us → sp vs H Q E →
    codeAny (model P w) A (.call (.ref f) ar) (CR (L2.CX P w) o P w H s Q E) s
section
variable {P : Program} {w : World} {K : PySem.W.Frag} {mg : Str → Option Value} {base : Heap} {cls : Nat → Addr}
theorem FnG.weak {k : Nat} {f : Addr} {fd : FuncData} {ps : List Str} {sp sp2 : Sp} (F : FnG P w K mg base k f fd ps sp) (i : ∀ vs H Q E, sp2 vs H Q E → sp vs H Q E) : FnG P w K mg base k f fd ps sp2 :=
  ⟨fun vs H Q E h => F.lng vs H Q E (i _ _ _ _ h), fun A o s H ar us vs Q E r e b v h => F.goes A o s H ar us vs Q E r e b v (i _ _ _ _ h)⟩
theorem fnG_stuck {k : Nat} {f : Addr} {fd : FuncData} {ps : List Str} {C : Cn} {F : List D → List D → Res D} (h : ∀ ds S, F ds S = .stuck) : FnG P w K mg base k f fd ps (spD C ps.length F) := by
  have no : ∀ vs H Q E, ¬ spD C ps.length F vs H Q E := fun vs H Q E h' => by
    obtain ⟨S, ρ, G, ds, _, _, _, z⟩ := h'
    rw [h] at z; exact z
  exact ⟨fun vs H Q E h => absurd h (no vs H Q E), fun A o s H ar us vs Q E _ _ _ _ h => absurd h (no vs H Q E)⟩
theorem lawG_imp {k : Nat} {f : Addr} {fd : FuncData} {ps : List Str} {F : List D → List D → Res D} (h : FnG P w K mg base k f fd ps (spD ⟨K, cls⟩ 1 F)) (h0 : ∀ i, cls (i + 1000) = 0) (hF : ∀ ns : List Int, ns.length ≤ 63 → ∃ S, F [.scr ns] [] = .ok (.bl true) S) :
    FnG P w K mg base k f fd ps (spLaw K) := h.weak fun vs H Q E ⟨a, ns, e, hS, hl, q⟩ => by
  subst e
  obtain ⟨S', hS'⟩ := hF ns hl
  refine ⟨[], [], H, [.scr ns], ⟨⟨fun a o h => ⟨o, h, .inl rfl⟩, fun i z => absurd (h0 i) z⟩, fun i d h => by simp at h, fun i d h => by simp at h, fun i j d d' a h => by simp at h, fun i d h => by simp at h, fun a h => by simp at h, rfl, List.nodup_nil, rfl, fun i x h => by simp at h⟩, .cons (rep_scr.mpr ⟨a, rfl, hS⟩) .nil, rfl, ?_⟩
  rw [hS']
  intro v ρ' G' H' m n r
  rw [rep_bl.mp r]
  exact q H'
theorem defG_ok {x qual : Str} {st : Stmt} {f : Addr} {fd : FuncData} {N ps : List Str} {k : Nat} {δ : Ds} (F : Fun K x qual st f fd) (Sc : FnScope N ps (defScope st))
    (hbody : ∀ (cdv : Value) (A : Around) (outer : List Env) (s : Shared) (H : Hp) (E : XK), RoomG k (A.deeper (envOfC qual (defScope st) s.heap.objs.size f cdv)) →
      DSs (cxOf (L2.CX P w) P w K mg base N qual (defScope st) f cdv A outer s H E) cls (fun c d _ H => E c d H) (defBody st) δ) : FnG P w K mg base (k + 1) f fd ps (spD ⟨K, cls⟩ ps.length (bodyRun N.length δ)) := by
  obtain ⟨oc, od, kV, doc, pm, an, cdv, ct, osl, rfl, lk, hcd⟩ := F.ex
  have ln : ∀ vs H Q E, spD ⟨K, cls⟩ ps.length (bodyRun N.length δ) vs H Q E → vs.length = ps.length := fun vs H Q E h => by obtain ⟨_, _, _, _, _, _, h, _⟩ := h; exact h
  refine ⟨ln, fun A o s0 H ar us vs Q E rm e0 bd rv h => ?_⟩
  refine LamX.run_ofS lk hcd Sc rm.toRoom e0 bd rv (ln _ _ _ _ h) fun _ => ⟨_, hbody cdv A o s0 H E (rm.deep _), ?_⟩
  obtain ⟨S, ρ, G, ds, m, r, hl, h⟩ := h
  refine ⟨⟨ρ, G, H, G, ρ, H⟩, _, S, ρ, G, ⟨start_mem m r, .refl, fun i d a h1 h2 => ?_, .refl, List.prefix_refl _, .refl⟩, ?_⟩
  · exfalso
    have hm := List.mem_of_getElem? h1
    rcases List.mem_append.mp hm with z | z
    · obtain ⟨_, _, e⟩ := List.mem_map.mp z; cases e
    · cases (List.eq_of_mem_replicate z)
  · unfold bodyRun at h
    cases q : δ (ds.map Sl.val ++ List.replicate (N.length - ds.length) Sl.non) S with
    | next Γ S' => rw [q] at h; exact fun ρ' G' H' σ' s' => h .non ρ' G' H' s'.mem.toS s'.nx (rep_non.mpr rfl)
    | ret d S' => rw [q] at h; exact fun v ρ' G' H' m' n' _ r' => h v ρ' G' H' m' n' r'
    | exc e Γ S' => rw [q] at h; exact fun c dx ρ' G' H' σ' s' er => h c dx ρ' G' H' s'.mem.toS s'.nx er
    | brk _ _ => rw [q] at h; exact h.elim
    | cont _ _ => rw [q] at h; exact h.elim
    | stuck => rw [q] at h; exact h.elim
end
/-! ### a call -/
section
variable {X : Cx} {cls : Nat → Addr} {W : WX} {k : Nat} {f : Addr} {fd : FuncData} {ps : List Str} {x : Str} {p pos : Pos} {e : Expr} {es : List Expr} {α : Da} {F : List D → List D → Res D} {sp : Sp}
theorem goesG {pins : List (Addr × Obj)} {σ : L2.St} {H : Hp} {s : Shared} {Q : VK} {E : XK} {us : List Value} {vs : List V} (Fn : FnG X.prog X.w X.K X.mg X.base k f fd ps sp) (rm : RoomG k X.A) (bd : Binds X.K fd ps []) (pa : PassesAt (L2.CX X.prog X.w) X σ E)
    (I : Inv X pins σ H s) (rv : Vals vs us) (h : sp vs H Q E) : wpAny (model X.prog X.w) X.A (call (.ref f) us) (EP X pins σ Q) X.xe s := by
  have b2 : BindsTo s fd ⟨us, []⟩ (ps.zip us) := by
    have z := bd s us I.kIn (by rw [List.append_nil, ← rv.length]; exact Fn.lng _ _ _ _ h)
    rwa [List.append_nil] at z
  refine wpAny_call (codeAny_mono (Fn.goes X.A X.stack s H ⟨us, []⟩ us vs Q E rm I.env0 b2 rv h) ?_)
  rintro (er | ⟨u⟩ | _ | _ | _) s2 hq
  all_goals first | exact pa pins H s er s2 I hq | exact I.after hq | exact hq.elim
theorem exG {δ : Da} {σ : L2.St} {H : Hp} {Q : VK} (tk : Takes X W) (hal : ALen δ ps.length) (h : tE ⟨X.K, cls⟩ W (RS ⟨X.K, cls⟩) (eCall F δ) σ H Q) :
    tA ⟨X.K, cls⟩ W δ σ H fun vs H1 => spD ⟨X.K, cls⟩ ps.length F vs H1 Q (fun c d H2 => W c d σ H2) := by
  obtain ⟨Γ, S, ρ, G, m, p⟩ := h
  refine ⟨Γ, S, ρ, G, m, ?_⟩
  unfold eCall at p
  cases q : δ Γ S with
  | ok ds S1 =>
    rw [q] at p
    intro vs ρ1 G1 H1 m1 n1 r1
    refine ⟨S1, ρ1, G1, ds, m1.toS, r1, by rw [← r1.length]; exact hal.le _ _ _ _ q, ?_⟩
    simp only [Res.bind_ok] at p
    cases z : F ds S1 with
    | ok d S2 => rw [z] at p; exact fun v ρ2 G2 H2 m2 n2 r2 => p v ρ2 G2 H2 (m1.step n2 m2) (n1.trans n2) r2
    | exc x S2 => rw [z] at p; exact fun c dx ρ2 G2 H2 m2 n2 r2 => p c dx ρ2 G2 H2 (m1.step n2 m2) (n1.trans n2) r2
    | stuck => rw [z] at p; exact p
  | exc x S1 => rw [q] at p; exact p
  | stuck => rw [q] at p; exact p
theorem de_callG (Fn : FnG X.prog X.w X.K X.mg X.base k f fd ps (spD ⟨X.K, cls⟩ ps.length F)) (tk : Takes X W) (rm : RoomG k X.A) (hg : Gl X x) (hm : X.mg x = some (.ref f)) (hk : PySem.W.keepIn X.K (.ref f) = true) (bd : Binds X.K fd ps [])
    (ha : DA X cls W (e :: es) α) (hal : ALen α ps.length) (hdb : (x == ("__debug__" : Str)) = false := by decide) (he : starEach (e :: es) X.env = (false, eval e X.env) :: starEach es X.env := by rfl) (pl : (backTo pos (starEach es X.env)).any (·.1) = false := by rfl) :
    DE X cls W (.Call (.Name x p) (e :: es) [] pos) (eCall F α) := ⟨fun pins s σ H Q I h => by
  refine wpAny_Call_Name_kw (ld_glob I hg hm ?_ hdb)
  exact PySem.W.callWith_K (h₀ := X.base) I.ok.mod.kin hk (thn (ha.run pos pins s σ H _ I (exG tk hal h)) fun us s1 ⟨vs, H1, I1, rv, q⟩ => ⟨I1.kIn, goesG Fn rm bd (passAt tk σ) I1 rv q⟩) he pl⟩
theorem de_call0G (Fn : FnG X.prog X.w X.K X.mg X.base k f fd [] (spD ⟨X.K, cls⟩ 0 F)) (tk : Takes X W) (rm : RoomG k X.A) (hg : Gl X x) (hm : X.mg x = some (.ref f)) (hk : PySem.W.keepIn X.K (.ref f) = true) (bd : Binds X.K fd [] [])
    (hdb : (x == ("__debug__" : Str)) = false := by decide) : DE X cls W (.Call (.Name x p) [] [] pos) (eCall F aNil) := ⟨fun pins s σ H Q I h => by
  refine wpAny_Call_Name_kw (ld_glob I hg hm ?_ hdb)
  refine PySem.W.callWith_K0 I.kIn hk (goesG (us := []) (vs := []) Fn rm bd (passAt tk σ) I .nil ?_)
  obtain ⟨Γ, S, ρ, G, m, p⟩ := exG (ps := []) (δ := aNil) tk ALen.nil h
  exact p [] ρ G H m .refl .nil⟩
end
end DL

namespace DL
open PySem PySem.Spec PyProof.Rows L2
/-! ### the law's end -/
def scrO (vs : List Value) : Obj := { cls := .type "list", data := .seq vs.toArray }
/-- the script alone -/
def hpOne (K : PySem.W.Frag) (a : Addr) (u : HO) : Hp := fun b => if b = a ∧ K.lookup a = none then some u else none
theorem hpOne_some {K : PySem.W.Frag} {a b : Addr} {u t : HO} (h : hpOne K a u b = some t) : b = a ∧ K.lookup a = none ∧ t = u := by
  unfold hpOne at h
  split at h
  · rename_i q; cases h; exact ⟨q.1, q.2, rfl⟩
  · cases h
theorem hpOne_off {K : PySem.W.Frag} {a b : Addr} {u : HO} (h : b = a → K.lookup a ≠ none) : hpOne K a u b = none := if_neg fun q => h q.1 q.2
section
variable {P : Program} {w : World} {K : PySem.W.Frag} {mg mb : Str → Option Value} {k : Nat} {fa a : Addr} {fd : FuncData} {x : Str} {s : Shared} {vs : List Value} {ns : List Int}
theorem law_endG (kin : K.In s.heap) (mN : s.heap.Ns mainGlobals mg) (bN : s.heap.Ns builtinsNs mb) (bb : ∀ y : Str, y ≠ "__name__" → mb y = bootBuiltins y) (nl : s.heap.NoLimit) (ng : s.gens = #[])
    (ao : s.heap.get? a = some (scrO vs)) (ii : IntsAre vs ns) (il : ns.length ≤ 63) (rm : RoomG k callerA)
    (F : ∀ base : Heap, K.In base → base.Ns mainGlobals mg → FnG P w K mg base k fa fd [x] (spLaw K)) (bd : ∀ (s : Shared) (u : Value), BindsTo s fd ⟨[u], []⟩ [(x, u)]) :
    codeAny (model P w) callerA (.call (.ref fa) ⟨[.ref a], []⟩) (fun r t => r = .ok (.ret (.bool true)) ∧ OldK s.heap t.heap ∧ t.os = s.os ∧ AllBare t.gens) s := by
  have iv := vals_ints ii
  have sl : ns.length ≤ sizeLine := Nat.le_trans il (by decide)
  obtain ⟨H, eH⟩ : ∃ H, H = hpOne K a (.frz (scrO vs) (.lst (ns.map V.int))) := ⟨_, rfl⟩
  -- the heap without the script
  have low : ∀ (b : Addr) (o : Obj), s.heap.get? b = some o → (b = a → K.lookup a ≠ none) → (hidT s.heap H).get? b = some o := fun b o e n => hidT_get e (by rw [eH]; exact hpOne_off n)
  have dic : ∀ {b : Addr} {o : Obj} {es : Array DictEntry} {n : Nat}, s.heap.get? b = some o → o.data = .dict es n → (hidT s.heap H).get? b = some o := fun {b o es n} e d => low b o e fun q => by
    subst q
    rw [ao] at e; cases e
    exact (show False by have d2 : Data.seq vs.toArray _ = Data.dict es n := d; cases d2).elim
  have nsD : ∀ {b : Addr} {m : Str → Option Value}, s.heap.Ns b m → (hidT s.heap H).Ns b m := fun {b m} ⟨o, es, n, e, d, r⟩ => ⟨o, es, n, dic e d, d, r⟩
  have kinD : K.In (hidT s.heap H) := fun b o e => low b o (kin b o e) fun q => by subst q; rw [e]; exact nofun
  have md : L2.Mod K mg (hidT s.heap H) := ⟨kinD, nsD mN, ⟨mb, nsD bN, bb⟩, by obtain ⟨mc, u1, u2⟩ := nl; exact ⟨mc, nsD u1, u2⟩⟩
  have held : HOk P w H s.heap := fun b t e => by
    rw [eH] at e
    obtain ⟨rfl, _, rfl⟩ := hpOne_some e
    exact ⟨ao, by rw [List.length_map]; exact sl, vs, _, iv, ao⟩
  have ev : Env0 P w K mg (hidT s.heap H) callerA [] s H := ⟨rfl, md, fun b o e => of_hidT e, Nat.le_of_eq (hidT_size _ _), trivial, fun b z => (List.not_mem_nil z).elim, held, .of_eq ng⟩
  have sq : SqL K H a (ns.map V.int) := by
    cases q : K.lookup a with
    | none => exact .inl (.inr ⟨scrO vs, by rw [eH]; exact if_pos ⟨rfl, q⟩⟩)
    | some o =>
      have e := kin a o q
      rw [ao] at e; cases e
      exact .inr ⟨_, vs.toArray, _, q, rfl, rfl, rfl, by rw [List.size_toArray, ii.length]; exact sl, by simpa using iv⟩
  refine codeAny_mono ((F _ kinD (nsD mN)).goes callerA [] s H ⟨[.ref a], []⟩ [.ref a] [.ref a] (fun v _ => v = .bl true) (fun _ _ _ => False) rm ev (bd s (.ref a)) (.cons rfl .nil) ⟨a, ns, rfl, sq, il, fun _ => rfl⟩) ?_
  intro r t h
  match r, h with
  | .error er, h => obtain ⟨_, _, _, _, _, _, _, _, _, _, _, _, z⟩ := h; exact z.elim
  | .ok .next, h => exact h.elim
  | .ok .brk, h => exact h.elim
  | .ok .cont, h => exact h.elim
  | .ok (.ret u), h =>
    obtain ⟨v, H2, os, bare, un, held2, rv, q⟩ := h
    have qv : v = .bl true := q
    subst qv
    obtain rfl : u = Value.bool true := rv
    refine ⟨rfl, OldK.of_keep fun b o e => ?_, os, bare⟩
    cases z : H b with
    | none => exact un.keep b o e z (fun c => List.not_mem_nil c) (fun c => List.not_mem_nil c)
    | some t2 =>
      have z2 := z
      rw [eH] at z2
      obtain ⟨rfl, _, rfl⟩ := hpOne_some z2
      rw [ao] at e; cases e
      exact (held2 b _ (un.frzs b _ _ z)).1
theorem law_headG {l : PySem.W.OpenLaw} {q : Program} {loose : List Str} {XP : (Str → Option Value) → Heap → Prop} {YP : World → Heap → Prop} {d : DefRec} {K : Params → PySem.W.Frag}
    (hn : l.most = some 63) (hdf : d.params.defaults = []) (rm : RoomG k callerA) (hY : ∀ (w : World) (h : Heap), YP w h → (K w.params).In h)
    (F : ∀ (w : World) (mg : Str → Option Value) (fa : Addr) (h : Heap), (K w.params).In h → h.Ns mainGlobals mg → mg d.name = some (.ref fa) →
      ∃ fd : FuncData, (∀ (s : Shared) (u : Value), BindsTo s fd ⟨[u], []⟩ [(x, u)]) ∧ ∀ base : Heap, (K w.params).In base → base.Ns mainGlobals mg → FnG l.prog w (K w.params) mg base k fa fd [x] (spLaw (K w.params))) :
    PySem.W.WalkO q loose XP YP l.row.toRowW d [] (fun f vs => PySem.call f vs) := by
  refine Att.attach_callB hn hdf fun w s0 s1 mg mb fa o pm cd doc a vs ns G Y ho hd hcd hmg hobj hints hlen hbits hg => ?_
  obtain ⟨fd, bd, hF⟩ := F w mg fa _ (hY w _ Y) G.T.g hmg
  exact law_endG (hY w _ Y) G.T.g G.T.b G.T.builtins G.T.nolimit hg hobj hints hlen rm hF bd
end
end DL

namespace DL
open PySem PySem.Spec PyProof.Rows L2
section
variable {C : Cn} {X : Cx} {cls : Nat → Addr} {W : WX} {a b c e : Expr} {δa δb δc : De} {pos p : Pos}
/-! ### a ≤ b ≤ c -/
theorem x_chain {R R' : R2} {f g : D → D → Option D} (hf : R2Ok ⟨X.K, cls⟩ (RS ⟨X.K, cls⟩) R f) (hg : R2Ok ⟨X.K, cls⟩ (RS ⟨X.K, cls⟩) R' g) {σ : L2.St} {H : Hp} {Q : VK} (h : tE ⟨X.K, cls⟩ W (RS ⟨X.K, cls⟩) (eChain f g δa δb δc) σ H Q) :
    tChain R R' (tE ⟨X.K, cls⟩ W (RO ⟨X.K, cls⟩) δa) (tE ⟨X.K, cls⟩ W (RO ⟨X.K, cls⟩) δb) (tE ⟨X.K, cls⟩ W (RO ⟨X.K, cls⟩) δc) σ H Q := by
  obtain ⟨Γ, S, ρ, G, m, p⟩ := h
  refine ⟨Γ, S, ρ, G, m, (Post.seq back_RS p).mono fun x H1 ⟨dx, S1, ρ1, G1, m1, n1, r1, p1⟩ => ⟨Γ, S1, ρ1, G1, m1, (Post.seq back_RS p1).mono fun y H2 ⟨dy, S2, ρ2, G2, m2, n2, r2, p2⟩ => ?_⟩⟩
  cases q : f (deref S2 dx) (deref S2 dy) with
  | none => rw [q] at p2; exact p2.elim
  | some k =>
    rw [q] at p2
    simp only [ofO_some, Res.bind_ok] at p2
    refine hf S2 ρ2 G2 H2 x y k _ _ _ m2.toS (m2.read (RO.step (H1 := H2) n2 r1)) (m2.read r2) q fun v ρ3 G3 H3 m3 n3 r3 => ?_
    cases k <;> try exact p2.elim
    rename_i kb
    refine ⟨kb, rep_bl.mp r3, ?_⟩
    have m3' := m2.step n3 m3
    cases kb with
    | false => exact p2.here (S := S2) m3' n3 (rep_bl.mpr rfl)
    | true =>
      have p3 := Post.shift back_RS p2 n3
      refine ⟨Γ, S2, ρ3, G3, m3', (Post.seq back_RS p3).mono fun z H4 ⟨dz, S4, ρ4, G4, m4, n4, r4, p4⟩ => ?_⟩
      obtain ⟨d, hd, p5⟩ := ofO_post p4
      exact hg S4 ρ4 G4 H4 y z d _ _ Q m4.toS (m4.read (RO.step (H1 := H4) (n3.trans n4) r2)) (m4.read r4) hd fun v ρ5 G5 H5 m5 n5 r5 => p5.here (m4.step n5 m5) n5 r5
theorem de_chain (ha : DO X cls W a δa) (hb : DO X cls W b δb) (hc : DO X cls W c δc) (hm : lastMarks [.LtE, .LtE] [b, c] = false := by with_unfolding_all rfl) : DE X cls W (.Compare a [.LtE, .LtE] [b, c] pos) (eChain oLe oLe δa δb δc) :=
  PE.weak (pe_chain or_le or_le ha hb hc hm) fun _ _ _ h => x_chain ok_ord ok_ord h
theorem dt_chain (ha : DO X cls W a δa) (hb : DO X cls W b δb) (hc : DO X cls W c δc) (hm : lastMarks [.LtE, .LtE] [b, c] = false := by with_unfolding_all rfl) : DT X cls W (.Compare a [.LtE, .LtE] [b, c] pos) (tB (eChain oLe oLe δa δb δc)) :=
  PT.weak (pt_chain or_le or_le ha hb hc hm) fun σ H Q ⟨Γ, S, ρ, G, m, p⟩ => by
    refine x_chain (W := W) (cls := cls) ok_ord ok_ord ⟨Γ, S, ρ, G, m, (Post.seq back_RB p).mono fun v H1 ⟨d, S1, ρ1, G1, m1, n1, r1, p1⟩ => ?_⟩
    obtain ⟨k, hk, p2⟩ := ofO_post p1
    cases d <;> try cases hk
    exact ⟨k, rep_bl.mp r1, p2.at m1 rfl⟩
/-! ### abs, max, min, sum -/
def dAbs : D → Option D
  | .int i => some (.int (if i < 0 then -i else i))
  | _ => none
def dMax : D → D → Option D
  | .int i, .int j => some (.int (if j > i then j else i))
  | _, _ => none
def dMin : D → D → Option D
  | .int i, .int j => some (.int (if j < i then j else i))
  | _, _ => none
def asInts : List D → Option (List Int)
  | [] => some []
  | .int i :: r => (asInts r).map (i :: ·)
  | _ :: _ => none
def dSum : D → Option D
  | .lst xs => (asInts xs).map fun l => .int l.sum
  | _ => none
theorem reps_ints {ρ : List Addr} {G : Hp} : ∀ {ds : List D} {vs : List V} {l : List Int}, Reps C ρ G ds vs → asInts ds = some l → vs = l.map V.int
  | [], _, _, h, e => by rw [asInts] at e; cases e; exact h.inv0
  | x :: r, _, l, h, e => by
    obtain ⟨v, vs, rfl, h1, h2⟩ := h.inv
    cases x <;> rw [asInts] at e <;> try cases e
    rename_i i
    cases q : asInts r with
    | none => rw [q] at e; cases e
    | some l' =>
      rw [q] at e; cases e
      rw [reps_ints h2 q, rep_int.mp h1]; rfl
    all_goals exact nofun
theorem rc_abs : RC1 C (RS C) (fun xs H Q => ∃ i, xs = [.int i] ∧ Q (.int (if i < 0 then -i else i)) H) dAbs := fun S ρ G H x d dx Q m rx e q => by
  cases dx <;> try cases e
  rw [rt_int] at rx; subst rx
  exact ⟨_, rfl, q _ _ _ _ m .refl (rep_int.mpr rfl)⟩
theorem rc_max : RC2 C (RS C) (fun xs H Q => ∃ i j, xs = [.int i, .int j] ∧ Q (.int (if j > i then j else i)) H) dMax := fun S ρ G H x y d dx dy Q m rx ry e q => by
  cases dx <;> cases dy <;> try cases e
  rw [rt_int] at rx ry; subst rx; subst ry
  exact ⟨_, _, rfl, q _ _ _ _ m .refl (rep_int.mpr rfl)⟩
theorem rc_min : RC2 C (RS C) (fun xs H Q => ∃ i j, xs = [.int i, .int j] ∧ Q (.int (if j < i then j else i)) H) dMin := fun S ρ G H x y d dx dy Q m rx ry e q => by
  cases dx <;> cases dy <;> try cases e
  rw [rt_int] at rx ry; subst rx; subst ry
  exact ⟨_, _, rfl, q _ _ _ _ m .refl (rep_int.mpr rfl)⟩
theorem rc_sum : RC1 C (RS C) (rSum C.K) dSum := fun S ρ G H x d dx Q m rx e q => by
  cases dx <;> try cases e
  rename_i xs
  obtain ⟨a, vs, rfl, h1, r1⟩ := rx
  simp only [dSum] at e
  cases k : asInts xs with
  | none => rw [k] at e; cases e
  | some l =>
    rw [k] at e; cases e
    have z := reps_ints r1 k
    subst z
    exact ⟨a, l, rfl, SqL.of h1, q _ _ _ _ m .refl (rep_int.mpr rfl)⟩
theorem de_abs (hg : Gl X "abs") (hm : X.mg "abs" = none) (ha : DO X cls W a δa) (he : starEach [a] X.env = (false, eval a X.env) :: starEach [] X.env := by rfl) (hpl : (backTo pos (starEach [] X.env)).any (·.1) = false := by rfl) : DE X cls W (.Call (.Name "abs" p) [a] [] pos) (eUn dAbs δa) :=
  x_c1 back_RS (pe_callB call_abs hg hm (by decide +kernel) (da1 ha he) (by decide) (by decide) he hpl) rc_abs
theorem de_sum (hg : Gl X "sum") (hm : X.mg "sum" = none) (hc : X.calm = true) (ha : DO X cls W a δa) (he : starEach [a] X.env = (false, eval a X.env) :: starEach [] X.env := by rfl) (hpl : (backTo pos (starEach [] X.env)).any (·.1) = false := by rfl) : DE X cls W (.Call (.Name "sum" p) [a] [] pos) (eUn dSum δa) :=
  x_c1 back_RS (pe_callB (cr_sum hc) hg hm (by decide +kernel) (da1 ha he) (by decide) (by decide) he hpl) rc_sum
theorem de_max (hg : Gl X "max") (hm : X.mg "max" = none) (hc : X.calm = true) (ha : DO X cls W a δa) (hb : DO X cls W b δb) (he : starEach [a, b] X.env = (false, eval a X.env) :: starEach [b] X.env := by rfl) (he2 : starEach [b] X.env = (false, eval b X.env) :: starEach [] X.env := by rfl)
    (hpl : (backTo pos (starEach [b] X.env)).any (·.1) = false := by rfl) : DE X cls W (.Call (.Name "max" p) [a, b] [] pos) (eOp dMax δa δb) :=
  x_c2 back_RS (pe_callB (call_max2 hc) hg hm (by decide +kernel) (da2 ha hb he he2) (by decide) (by decide) he hpl) rc_max
theorem de_min (hg : Gl X "min") (hm : X.mg "min" = none) (hc : X.calm = true) (ha : DO X cls W a δa) (hb : DO X cls W b δb) (he : starEach [a, b] X.env = (false, eval a X.env) :: starEach [b] X.env := by rfl) (he2 : starEach [b] X.env = (false, eval b X.env) :: starEach [] X.env := by rfl)
    (hpl : (backTo pos (starEach [b] X.env)).any (·.1) = false := by rfl) : DE X cls W (.Call (.Name "min" p) [a, b] [] pos) (eOp dMin δa δb) :=
  x_c2 back_RS (pe_callB (call_min2 hc) hg hm (by decide +kernel) (da2 ha hb he he2) (by decide) (by decide) he hpl) rc_min
/-! ### repr of lists and tuples -/
def isSq : D → Bool | .lst _ => true | .tup _ => true | _ => false
def dRepr (d : D) : Option D := match toPy d with
  | some q => if isSq d = true ∧ q.showable = true ∧ q.hasDict = false ∧ q.depth ≤ 180 ∧ q.shown.length ≤ sizeLine then some (.str q.shown) else none
  | none => none
theorem call_reprG (hu : X.A.units + 190 < cLine) (gd : X.A.guards = some []) : CallR X (.builtin "repr") (fun xs H Q => ∃ a q, xs = [.ref a] ∧ Dp X.K H (.ref a) q ∧ q.showable = true ∧ q.hasDict = false ∧ q.depth ≤ 180 ∧ q.shown.length ≤ sizeLine ∧ Q (.str q.shown) H) := by
  intro pins s σ H xs us Q I r h
  obtain ⟨a, q, rfl, hd, hs, hD, hdp, hl, k⟩ := h
  obtain ⟨u, rfl, ru⟩ := vals1 r
  obtain ⟨as, rd⟩ := Dp.reads I q _ _ hd ru
  obtain rfl : u = Value.ref a := ru
  exact repr_of_reads' rd hs (fun z => by rw [hD] at z; cases z) gd (by omega) (fun _ _ z => z) (fun h' u tk hk => ⟨.str _, H, I.kept hk, ⟨_, rfl⟩, k⟩) hl
theorem rc_repr : RC1 C (RS C) (fun xs H Q => ∃ a q, xs = [.ref a] ∧ Dp C.K H (.ref a) q ∧ q.showable = true ∧ q.hasDict = false ∧ q.depth ≤ 180 ∧ q.shown.length ≤ sizeLine ∧ Q (.str q.shown) H) dRepr := fun S ρ G H x d dx Q m rx e q => by
  unfold dRepr at e
  split at e
  · rename_i y hy
    split at e
    · rename_i c
      cases e
      obtain ⟨c1, c2, c3, c4, c5⟩ := c
      have dp := dp_rt m.sub rx hy
      have : ∃ a, x = V.ref a := by
        cases dx <;> try cases c1
        · obtain ⟨a, vs, rfl, _⟩ := rx; exact ⟨a, rfl⟩
        · rw [rt_tup] at rx; obtain ⟨a, vs, rfl, _⟩ := rx; exact ⟨a, rfl⟩
      obtain ⟨a, rfl⟩ := this
      exact ⟨a, y, rfl, dp, c2, c3, c4, c5, q _ _ _ _ m .refl (rep_str.mpr rfl)⟩
    · cases e
  · cases e
theorem de_repr {k : Nat} (rm : RoomG k X.A) (hg : Gl X "repr") (hm : X.mg "repr" = none) (ha : DO X cls W a δa) (he : starEach [a] X.env = (false, eval a X.env) :: starEach [] X.env := by rfl) (hpl : (backTo pos (starEach [] X.env)).any (·.1) = false := by rfl) : DE X cls W (.Call (.Name "repr" p) [a] [] pos) (eUn dRepr δa) :=
  x_c1 back_RS (pe_callB (call_reprG (by have := rm.un; omega) rm.gd) hg hm (by decide +kernel) (da1 ha he) (by decide) (by decide) he hpl) rc_repr
end
/-! ### found.reverse() -/
section
variable {X : Cx} {cls : Nat → Addr} {W : WX} {c : Expr} {pos : Pos}
def sRevO (i : Nat) : Ds := fun Γ S => match Γ[i]? with
  | some (.own (.lst xs)) => .next (Γ.set i (.own (.lst xs.reverse))) S
  | _ => .stuck
theorem Reps.rev {C : Cn} {ρ : List Addr} {G : Hp} : ∀ {ds : List D} {vs : List V}, Reps C ρ G ds vs → Reps C ρ G ds.reverse vs.reverse
  | [], _, h => by rw [h.inv0]; exact Reps.nil
  | x :: xs, _, h => by
    obtain ⟨v, r, rfl, h1, h2⟩ := h.inv
    rw [List.reverse_cons, List.reverse_cons]
    exact (Reps.rev h2).append (.cons h1 .nil)
theorem ds_revO (i : Nat) (h : PE X c (tBM0 X.K "list" rReverse (tVar i))) (hs : swapsWith c none pos.line X.env = pure false := by rfl) : DS X cls W (.Expr c pos) (sRevO i) :=
  PS.weak (ps_expr h hs) fun D σ H ⟨en, Γ, S, ρ, G, s, p⟩ => by
    unfold sRevO at p
    split at p
    · rename_i xs hx
      obtain ⟨a, vs, e, h1, r, g, n⟩ := own_at s hx
      refine ⟨_, e, .inl ⟨rfl, vs, SqL.of h1⟩, a, vs, rfl, rfl, h1, ?_⟩
      exact p _ _ _ _ (s.poke hx e ⟨_, upd_same, r.rev⟩)
    · exact p.elim
end
end DL

namespace DL
open PySem PySem.Spec PyProof.Rows L2
/-! ### dicts -/
def dPutX : List Key → List D → Key → D → List D
  | q :: ks, x :: xs, k, d => (if q = k then d else x) :: dPutX ks xs k d
  | _, xs, _, _ => xs
def dPut (ks : List Key) (xs : List D) (k : Key) (d : D) : List Key × List D := if (ks.any fun q => decide (q = k)) = true then (ks, dPutX ks xs k d) else (ks ++ [k], xs ++ [d])
section
variable {C : Cn} {ρ : List Addr} {G H : Hp}
theorem dGet_val : ∀ {ks : List Key} {xs : List D} {vs : List V}, Reps C ρ G xs vs → ks.length = xs.length → ∀ k, match dGet ks xs k with
    | some d => ∃ v, valV (ks.zip vs) k = some v ∧ Rep C ρ G d v
    | none => valV (ks.zip vs) k = none
  | [], [], vs, r, _, k => by
    have e : dGet [] ([] : List D) k = none := by unfold dGet; rfl
    rw [e]; rfl
  | q :: ks, x :: xs, vs, r, hl, k => by
    obtain ⟨v, us, rfl, h1, h2⟩ := r.inv
    rw [dGet]
    by_cases e : q = k
    · rw [if_pos e]
      exact ⟨v, valV_pos (p := (q, v)) e, h1⟩
    · rw [if_neg e]
      have ih := dGet_val (ks := ks) h2 (by simpa using hl) k
      rw [List.zip_cons_cons, valV_neg (p := (q, v)) e]
      exact ih
theorem rt_dct {ks : List Key} {xs : List D} {v : V} : RT C ρ G H (.dct ks xs) v ↔ ∃ a vs, v = V.ref a ∧ Rd H a (.dK (ks.zip vs)) ∧ ks.length = xs.length ∧ Reps C ρ G xs vs := Iff.rfl
end
section
variable {X : Cx} {cls : Nat → Addr} {W : WX} {a b c e : Expr} {δa δb δc : De} {pos p apos cpos : Pos}
def eDct0 : De := fun _ S => .ok (.dct [] []) S
theorem df_dct0 : DF X cls W (.Dict [] [] pos) eDct0 := PE.weak pe_dnewK fun σ H Q ⟨Γ, S, ρ, G, m, q⟩ => fun p hp => by
  obtain ⟨m', n', np, gp⟩ := m.new (o := .dK []) hp
  exact q (.ref p) ρ G _ m' n' ⟨p, rfl, np, hp, gp, [], upd_same, rfl, Reps.nil⟩
def keyV (d : D) (k : Key) : Prop := match d, k with
  | .int i, .inl j => i = j
  | .str x, .inr y => x = y
  | _, _ => False
theorem keyD_v {C : Cn} {ρ : List Addr} {G : Hp} {d : D} {k : Key} {v : V} (h : keyD d = some k) (r : Rep C ρ G d v) : v = kV k := by
  cases d <;> try cases h
  · rw [rep_int] at r; subst r; rfl
  · rw [rep_str] at r; subst r; rfl
theorem dget_rt {C : Cn} {ρ : List Addr} {G H : Hp} {ks : List Key} {xs : List D} {a : Addr} {vs : List V} (h1 : Rd H a (.dK (ks.zip vs))) (hl : ks.length = xs.length) (r : Reps C ρ G xs vs) (q : Key) : ∃ o, DGet H a (kV q) o ∧ match dGet ks xs q with
    | some d => ∃ v, o = some v ∧ Rep C ρ G d v
    | none => o = none := by
  refine ⟨_, .inl ⟨_, q, h1, rfl, rfl⟩, ?_⟩
  have k := dGet_val r hl q
  cases z : dGet ks xs q with
  | some d => rw [z] at k; exact k
  | none => rw [z] at k; exact k
/-- d.get(k, x) -/
def dGet2 (d k x : D) : Option D := match d, keyD k with
  | .dct ks xs, some q => some ((dGet ks xs q).getD x)
  | _, _ => none
def isDct : D → Bool | .dct _ _ => true | _ => false
def eGet2 (a b c : De) : De := fun Γ S => (a Γ S).bind fun x S1 => if isDct (deref S1 x) = true then (b Γ S1).bind fun y S2 => (c Γ S2).bind fun z S3 => ofO (dGet2 (deref S3 x) y z) S3 else .stuck
theorem isDct_rt {C : Cn} {ρ : List Addr} {G H : Hp} {d : D} {v : V} (h : isDct d = true) (r : RT C ρ G H d v) : ∃ a, v = V.ref a ∧ IsD H a := by
  cases d <;> try cases h
  obtain ⟨a, vs, rfl, h1, _, _⟩ := r
  exact ⟨a, rfl, .inl ⟨_, h1⟩⟩
theorem de_dget2 (hu : X.A.units + 1 < cLine) (ha : DO X cls W a δa) (hb : DE X cls W b δb) (hc : DE X cls W c δc) (m : M2 X a "get" apos b c cpos) : DE X cls W (.Call (.Attribute a "get" apos) [b, c] [] cpos) (eGet2 δa δb δc) :=
  PE.weak (pe_dget2 hu ha hb hc m) fun σ H Q ⟨Γ, S, ρ, G, m, p⟩ => by
    refine ⟨Γ, S, ρ, G, m, (Post.seq back_RS p).mono fun x H1 ⟨dx, S1, ρ1, G1, m1, n1, r1, p1⟩ => ?_⟩
    split at p1
    · rename_i hd
      obtain ⟨ad, rfl, isd⟩ := isDct_rt hd (m1.read r1)
      refine ⟨ad, rfl, isd, Γ, S1, ρ1, G1, m1, (Post.seq back_RS p1).mono fun y H2 ⟨dy, S2, ρ2, G2, m2, n2, r2, p2⟩ => ⟨Γ, S2, ρ2, G2, m2, (Post.seq back_RS p2).mono fun z H3 ⟨dz, S3, ρ3, G3, m3, n3, r3, p3⟩ => ?_⟩⟩
      obtain ⟨d, hd3, p4⟩ := ofO_post p3
      have rt3 := m3.read (RO.step (H1 := H3) (n2.trans n3) r1)
      unfold dGet2 at hd3
      split at hd3
      · rename_i ks xs q e1 e2
        rw [e1] at rt3
        obtain ⟨a3, vs, e3, h3, hl, rr⟩ := rt3
        cases e3
        obtain ⟨o, g, k⟩ := dget_rt h3 hl rr q
        have ey := keyD_v e2 (r2.mono n3.ext n3.pre)
        subst ey
        refine ⟨o, g, ?_⟩
        cases z2 : dGet ks xs q with
        | some d2 =>
          rw [z2] at k hd3
          obtain ⟨v, rfl, rv⟩ := k
          cases hd3
          exact p4.at m3 rv
        | none =>
          rw [z2] at k hd3
          subst k
          cases hd3
          exact p4.at m3 r3
      · cases hd3
    · exact p1.elim
end
/-! ### found[k] = e, found a dict of the slot's own -/
section
variable {C : Cn} {ρ : List Addr} {G : Hp}
theorem zip_any : ∀ {ks : List Key} {vs : List V}, ks.length = vs.length → ∀ k, ((ks.zip vs).any fun kv => decide (kv.1 = k)) = ks.any fun q => decide (q = k)
  | [], _, _, _ => rfl
  | q :: ks, v :: vs, h, k => by
    rw [List.zip_cons_cons, List.any_cons, List.any_cons, zip_any (by simpa using h)]
theorem put_zip {d : D} {v : V} (rd : Rep C ρ G d v) {ks : List Key} {xs : List D} {vs : List V} (r : Reps C ρ G xs vs) (hl : ks.length = xs.length) (k : Key) :
    ∃ us, putK (ks.zip vs) k v = (dPut ks xs k d).1.zip us ∧ (dPut ks xs k d).1.length = (dPut ks xs k d).2.length ∧ Reps C ρ G (dPut ks xs k d).2 us := by
  have hv : ks.length = vs.length := by rw [hl, r.length]
  unfold putK dPut
  rw [zip_any hv]
  by_cases e : (ks.any fun q => decide (q = k)) = true
  · rw [if_pos e, if_pos e]
    have key : ∀ {ks : List Key} {xs : List D} {vs : List V}, Reps C ρ G xs vs → ks.length = xs.length → ∃ us, ((ks.zip vs).map fun kv => if kv.1 = k then (kv.1, v) else kv) = ks.zip us ∧ ks.length = (dPutX ks xs k d).length ∧ Reps C ρ G (dPutX ks xs k d) us := by
      intro ks
      induction ks with
      | nil =>
        intro xs vs r hl
        cases xs with
        | nil => exact ⟨[], rfl, rfl, Reps.nil⟩
        | cons _ _ => cases hl
      | cons q ks ih =>
        intro xs vs r hl
        cases xs with
        | nil => cases hl
        | cons x xs =>
          obtain ⟨w, us, rfl, h1, h2⟩ := r.inv
          obtain ⟨us2, e1, e2, e3⟩ := ih h2 (by simpa using hl)
          rw [dPutX]
          by_cases hq : q = k
          · exact ⟨v :: us2, by simp [hq, e1], by simp [e2], by rw [if_pos hq]; exact .cons rd e3⟩
          · exact ⟨w :: us2, by simp [hq, e1], by simp [e2], by rw [if_neg hq]; exact .cons h1 e3⟩
    exact key r hl
  · rw [if_neg e, if_neg e]
    refine ⟨vs ++ [v], ?_, by simp [hl], r.append (.cons rd .nil)⟩
    rw [List.zip_append hv]; rfl
end
section
variable {X : Cx} {cls : Nat → Addr} {W : WX} {a e : Expr} {ε1 ε2 : De} {pos pos' : Pos}
def sPutO (i : Nat) (k e : De) : Ds := fun Γ S => after (e Γ S) Γ fun d S1 => match Γ[i]? with
  | some (.own (.dct _ _)) => after (k Γ S1) Γ fun x S2 => match Γ[i]?, keyD x with
    | some (.own (.dct ks xs)), some q => if xs.length < sizeLine then .next (Γ.set i (.own (.dct (dPut ks xs q d).1 (dPut ks xs q d).2))) S2 else .stuck
    | _, _ => .stuck
  | _ => .stuck
theorem own_dct {C : Cn} {en : Ent} {Γ : List Sl} {S : List D} {ρ : List Addr} {G H : Hp} {σ : L2.St} (s : SI C en Γ S ρ G H σ) {i : Nat} {ks : List Key} {xs : List D} (h : Γ[i]? = some (.own (.dct ks xs))) : ∃ a vs, σ[i]? = some (some (V.ref a)) ∧ H a = some (.dK (ks.zip vs)) ∧ ks.length = xs.length ∧ Reps C ρ G xs vs ∧ G a = none ∧ a ∉ ρ := by
  obtain ⟨a, e, ⟨vs, h1, l, r⟩, g, n⟩ := s.mem.own i _ h
  exact ⟨a, vs, e, h1, l, r, g, n⟩
theorem ds_putO (i : Nat) (hu : X.A.units + 1 < cLine) (ho : PE X a (tVar i)) (hk : DE X cls W e ε1) {val : Expr} (hv : DE X cls W val ε2) (hs : swapsWith val (some (.Subscript a e pos')) pos.line X.env = pure false := by rfl) :
    DS X cls W (.Assign [.Subscript a e pos'] val pos) (sPutO i ε1 ε2) := PS.weak (ps_dput hu ho hk hv hs) fun D σ H ⟨en, Γ, S, ρ, G, s, p⟩ => ⟨Γ, S, ρ, G, s.mem, post_after s p fun d S1 ρ1 G1 H1 v m1 n1 s1 r1 p1 => by
  split at p1
  · rename_i ks0 xs0 hx
    obtain ⟨a, vs, e, h1, _, r, g, n⟩ := own_dct s1 hx
    refine ⟨_, e, Γ, S1, ρ1, G1, s1.mem, post_after s1 p1 fun d2 S2 ρ2 G2 H2 v2 m2 n2 s2 r2 p2 => ?_⟩
    split at p2
    · rename_i ks xs q hx2 hq
      obtain ⟨a', vs', e', h1', hl', r', g', n'⟩ := own_dct s2 hx2
      rw [e] at e'; cases e'
      split at p2
      · rename_i hz
        have ek := keyD_v hq r2
        subst ek
        obtain ⟨us, e1, e2, e3⟩ := put_zip (r1.mono n2.ext n2.pre) r' hl' q
        refine ⟨a, _, rfl, DPut.k h1' ?_, ?_⟩
        · rw [List.length_zip, hl', r'.length, Nat.min_self, ← r'.length]; exact hz
        · exact p2 _ _ _ _ (s2.poke hx2 e ⟨us, by rw [upd_same, e1], e2, e3⟩)
      · exact p2.elim
    · exact p2.elim
  · exact p1.elim⟩
end
/-! ### a[b], a a dict or not -/
section
variable {X : Cx} {cls : Nat → Addr} {W : WX} {a b : Expr} {δa δb : De} {pos : Pos}
theorem PE.or {e : Expr} {t t' : TE} (h : PE X e t) (h' : PE X e t') : PE X e (fun σ H Q => t σ H Q ∨ t' σ H Q) := ⟨fun pins s σ H Q I k => by
  rcases k with k | k
  · exact h.run pins s σ H Q I k
  · exact h'.run pins s σ H Q I k⟩
def dKey (d k : D) : Option D := match d, keyD k with
  | .dct ks xs, some q => dGet ks xs q
  | _, _ => none
def dIdxA (d k : D) : Option D := if isDct d = true then dKey d k else dIdx d k
theorem ok_key {C : Cn} : R2Ok C (RS C) (fun x y H Q => ∃ a v, x = .ref a ∧ DGet H a y (some v) ∧ Q v H) dKey := fun S ρ G H x y d dx dy Q m rx ry e k => by
  unfold dKey at e
  split at e
  · rename_i ks xs q hq
    obtain ⟨a, vs, rfl, h1, hl, r⟩ := rx
    obtain ⟨o, g, w⟩ := dget_rt h1 hl r q
    rw [e] at w
    obtain ⟨v, rfl, rv⟩ := w
    have ey : y = kV q := by
      cases dy <;> try cases hq
      · rw [rt_int] at ry; subst ry; rfl
      · rw [rt_str] at ry; subst ry; rfl
    subst ey
    exact ⟨a, v, rfl, g, k v _ _ _ m .refl rv⟩
  · cases e
theorem eOp_cases (Γ : List Sl) (S : List D) : eOp dIdxA δa δb Γ S = eOp dKey δa δb Γ S ∨ eOp dIdxA δa δb Γ S = eOp dIdx δa δb Γ S := by
  unfold eOp
  cases δa Γ S with
  | exc _ _ => exact .inl rfl
  | stuck => exact .inl rfl
  | ok x S1 =>
    simp only [Res.bind_ok]
    cases δb Γ S1 with
    | exc _ _ => exact .inl rfl
    | stuck => exact .inl rfl
    | ok y S2 =>
      simp only [Res.bind_ok]
      unfold dIdxA
      by_cases h : isDct (deref S2 x) = true
      · rw [if_pos h]; exact .inl rfl
      · rw [if_neg h]; exact .inr rfl
theorem de_subA (hu : X.A.units + 1 < cLine) (ha : DO X cls W a δa) (hb : DO X cls W b δb) (h0 : DE X cls W (.Subscript a b pos) (eOp dIdx δa δb)) (hs : NoSl b) : DE X cls W (.Subscript a b pos) (eOp dIdxA δa δb) :=
  PE.weak (PE.or (pe_dget hu ha hb hs) h0) fun σ H Q ⟨Γ, S, ρ, G, m, p⟩ => by
    rcases eOp_cases (δa := δa) (δb := δb) Γ S with e | e
    · rw [e] at p
      exact .inl (x_op (cls := cls) (W := W) (δa := δa) (δb := δb) back_RS ok_key ⟨Γ, S, ρ, G, m, p⟩)
    · rw [e] at p
      exact .inr ⟨Γ, S, ρ, G, m, p⟩
end
end DL

namespace DL
open PySem PySem.Spec PyProof.Rows L2
/-! ### sorted texts -/
def leS (a b : Str) : Bool := !ltCps b.cps.toList a.cps.toList
theorem leS_iff (a b : Str) : leS a b = true ↔ a.cps.toList ≤ b.cps.toList := by
  unfold leS
  rw [ltCps_eq, Bool.not_eq_true', decide_eq_false_iff_not, List.not_lt]
theorem leS_trans (a b c : Str) (h1 : leS a b = true) (h2 : leS b c = true) : leS a c = true := by
  rw [leS_iff] at *
  exact List.le_trans h1 h2
theorem leS_total (a b : Str) : (leS a b || leS b a) = true := by
  rw [Bool.or_eq_true, leS_iff, leS_iff]
  exact List.le_total _ _
theorem leS_anti (a b : Str) (h1 : leS a b = true) (h2 : leS b a = true) : a = b := by
  rw [leS_iff] at *
  have := List.le_antisymm h1 h2
  obtain ⟨⟨x⟩⟩ := a
  obtain ⟨⟨y⟩⟩ := b
  cases this; rfl
def srtS (l : List Str) : List Str := l.mergeSort leS
theorem rising_pair : ∀ (r : List Str) (x : Str), risingS x r = true → (x :: r).Pairwise fun a b => leS a b = true
  | [], x, _ => List.pairwise_singleton _ _
  | y :: r, x, h => by
    unfold risingS at h
    rw [Bool.and_eq_true] at h
    have hxy : leS x y = true := h.1
    have ih := rising_pair r y h.2
    refine List.Pairwise.cons (fun z hz => ?_) ih
    rcases List.mem_cons.mp hz with rfl | hz
    · exact hxy
    · exact leS_trans x y z hxy ((List.pairwise_cons.mp ih).1 z hz)
theorem sorted_pair (l : List Str) (h : sortedS l = true) : l.Pairwise fun a b => leS a b = true := by
  cases l with
  | nil => exact List.Pairwise.nil
  | cons x r => exact rising_pair r x h
theorem srt_uniq {ys xs : List Str} (hp : ys.Perm xs) (hs : sortedS ys = true) : ys = srtS xs :=
  List.Perm.eq_of_pairwise (le := fun a b => leS a b = true) (fun a b _ _ h1 h2 => leS_anti a b h1 h2) (sorted_pair ys hs) (List.pairwise_mergeSort leS_trans leS_total xs) (hp.trans (List.mergeSort_perm xs leS).symm)
def asStrs : List D → Option (List Str)
  | [] => some []
  | .str i :: r => (asStrs r).map (i :: ·)
  | _ :: _ => none
def keyStrs : List Key → Option (List Str)
  | [] => some []
  | .inr i :: r => (keyStrs r).map (i :: ·)
  | _ :: _ => none
theorem reps_strs2 {C : Cn} {ρ : List Addr} {G : Hp} : ∀ {ds : List D} {vs : List V} {l : List Str}, Reps C ρ G ds vs → asStrs ds = some l → vs = l.map V.str
  | [], _, _, h, e => by rw [asStrs] at e; cases e; exact h.inv0
  | x :: r, _, l, h, e => by
    obtain ⟨v, vs, rfl, h1, h2⟩ := h.inv
    cases x <;> rw [asStrs] at e <;> try cases e
    rename_i i
    cases q : asStrs r with
    | none => rw [q] at e; cases e
    | some l' =>
      rw [q] at e; cases e
      rw [reps_strs2 h2 q, rep_str.mp h1]; rfl
    all_goals exact nofun
theorem keyStrs_map : ∀ {ks : List Key} {l : List Str}, keyStrs ks = some l → ks = l.map Sum.inr
  | [], _, e => by rw [keyStrs] at e; cases e; rfl
  | x :: r, l, e => by
    cases x <;> rw [keyStrs] at e <;> try cases e
    · rename_i i
      cases q : keyStrs r with
      | none => rw [q] at e; cases e
      | some l' =>
        rw [q] at e; cases e
        rw [keyStrs_map q]; rfl
    all_goals exact nofun
theorem reps_mk {C : Cn} {ρ : List Addr} {G : Hp} : ∀ (l : List Str), Reps C ρ G (l.map D.str) (l.map V.str)
  | [] => Reps.nil
  | x :: r => .cons (rep_str.mpr rfl) (reps_mk r)
def dSorted : D → Option D
  | .lst xs => (asStrs xs).bind fun l => if l.length < 64 then some (.lst ((srtS l).map D.str)) else none
  | .dct ks _ => (keyStrs ks).bind fun l => if l.length < 64 then some (.lst ((srtS l).map D.str)) else none
  | _ => none
section
variable {C : Cn} {X : Cx} {cls : Nat → Addr} {W : WX} {a : Expr} {δa : De} {pos p : Pos}
def rSrt (K : PySem.W.Frag) : List V → Hp → VK → Prop := fun xs H Q => rSortedS K xs H Q ∨ ∃ (a : Addr) (kvs : List (Key × V)) (ks : List Str), xs = [.ref a] ∧ Rd H a (.dK kvs) ∧ kvs.map (·.1) = ks.map Sum.inr ∧ ks.length < 64 ∧
    ∀ ys p, ys.Perm ks → sortedS ys = true → H p = none → Q (.ref p) (upd H p (.lst (ys.map V.str)))
theorem rc_sorted : RC1 C (RF C) (rSrt C.K) dSorted := fun S ρ G H x d dx Q m rx e q => by
  cases dx <;> try cases e
  · rename_i xs
    obtain ⟨a, vs, rfl, h1, r1⟩ := rx
    simp only [dSorted] at e
    cases k : asStrs xs with
    | none => rw [k] at e; cases e
    | some l =>
      rw [k, Option.bind_some] at e
      split at e
      · rename_i hl
        cases e
        have z := reps_strs2 r1 k
        subst z
        refine .inl ⟨a, l, rfl, SqL.of h1, hl, fun ys p hp hs hn => ?_⟩
        obtain rfl := srt_uniq hp hs
        obtain ⟨m2, n2, r⟩ := x_new m (reps_mk (C := C) (ρ := ρ) (G := G) (srtS l)) hn
        exact q _ _ _ _ m2 n2 r
      · cases e
  · rename_i ks xs
    obtain ⟨a, vs, rfl, h1, hl0, r1⟩ := rx
    simp only [dSorted] at e
    cases k : keyStrs ks with
    | none => rw [k] at e; cases e
    | some l =>
      rw [k, Option.bind_some] at e
      split at e
      · rename_i hl
        cases e
        refine .inr ⟨a, _, l, rfl, h1, ?_, hl, fun ys p hp hs hn => ?_⟩
        · rw [List.map_fst_zip (by rw [hl0, r1.length]; exact Nat.le_refl _)]; exact keyStrs_map k
        · obtain rfl := srt_uniq hp hs
          obtain ⟨m2, n2, r⟩ := x_new m (reps_mk (C := C) (ρ := ρ) (G := G) (srtS l)) hn
          exact q _ _ _ _ m2 n2 r
      · cases e
theorem call_srt (hc : X.calm = true) : CallR X (.builtin "sorted") (rSrt X.K) := fun pins s σ H xs us Q I r h => by
  rcases h with h | h
  · exact cr_sortedS pins s σ H xs us Q I r h
  · exact call_sortedD hc pins s σ H xs us Q I r h
theorem df_sorted (hg : Gl X "sorted") (hm : X.mg "sorted" = none) (hc : X.calm = true) (ha : DO X cls W a δa) (he : starEach [a] X.env = (false, eval a X.env) :: starEach [] X.env := by rfl) (hpl : (backTo pos (starEach [] X.env)).any (·.1) = false := by rfl) : DF X cls W (.Call (.Name "sorted" p) [a] [] pos) (eUn dSorted δa) :=
  x_c1 back_RF (pe_callB (call_srt hc) hg hm (by decide +kernel) (da1 ha he) (by decide) (by decide) he hpl) rc_sorted
end
end DL

namespace DL
open PySem PySem.Spec PyProof.Rows L2 LiI
/-! ### list(d.items()) -/
section
variable {C : Cn} {S : List D} {ρ : List Addr} {G G' H H' : Hp}
theorem mem_more (m : MemS C S ρ G H) (hG : Sub G G') (hH : ∀ b o, H b = some o → H' b = some o) (s : SubH C G' H') (nw : ∀ a o, G' a = some o → G a = some o ∨ H a = none) : MemS C S ρ G' H' ∧ Nx ρ G H ρ G' H' := by
  have live : ∀ a, H' a = none → H a = none := fun a h => by
    cases q : H a with
    | none => rfl
    | some o => rw [hH a o q] at h; cases h
  refine ⟨⟨s, fun i d h => by simp at h, fun i d h => by simp at h, fun i j d d' a h => by simp at h, fun i d h => ?_, fun a ha => ?_, m.len, m.nd, rfl, fun i x h => by simp at h⟩, ⟨List.prefix_refl _, hG, nw, fun a o _ h _ => hH a o h, live, fun a h => .inl h⟩⟩
  · obtain ⟨a, e, r⟩ := m.sto i d h
    exact ⟨a, e, r.mono hG (List.prefix_refl _) fun o q => hH a o q⟩
  · cases q : G' a with
    | none => rfl
    | some o =>
      rcases nw a o q with z | z
      · rw [m.stG a ha] at z; cases z
      · obtain ⟨i, hi⟩ := List.mem_iff_getElem?.mp ha
        have hl : i < S.length := by rw [← m.len]; exact (List.getElem?_eq_some_iff.mp hi).1
        obtain ⟨b, e, r⟩ := m.sto i S[i] (List.getElem?_eq_getElem hl)
        rw [hi] at e; cases e
        obtain ⟨o2, h2⟩ := r.some
        rw [h2] at z; cases z
def keyK : Key → D
  | .inl i => .int i
  | .inr x => .str x
theorem keyK_rep (k : Key) : Rep C ρ G (keyK k) (kV k) := by
  cases k with
  | inl i => exact rep_int.mpr rfl
  | inr x => exact rep_str.mpr rfl
def itemsD : List Key → List D → List D
  | k :: ks, x :: xs => .tup [keyK k, x] :: itemsD ks xs
  | _, _ => []
theorem items_reps {F : Hp} : ∀ {ks : List Key} {xs : List D} {vs : List V} {ts : List Addr}, Reps C ρ F xs vs → ks.length = xs.length → Paired (fun (t : Addr) (q : Key × V) => F t = some (.tup [kV q.1, q.2])) ts (ks.zip vs) → Reps C ρ F (itemsD ks xs) (ts.map V.ref)
  | [], [], vs, ts, r, _, h => by
    cases h
    unfold itemsD; exact Reps.nil
  | [], x :: xs, _, _, _, hl, _ => by cases hl
  | k :: ks, [], _, _, _, hl, _ => by cases hl
  | k :: ks, x :: xs, vs, ts, r, hl, h => by
    obtain ⟨v, us, rfl, h1, h2⟩ := r.inv
    cases h with
    | cons a b =>
      unfold itemsD
      exact .cons (rep_tup.mpr ⟨_, _, rfl, .inl (.inl a), .cons (keyK_rep k) (.cons h1 .nil)⟩) (items_reps h2 (by simpa using hl) b)
end
end DL

namespace DL
open PySem PySem.W PySem.Calls PyProof.Rows PySem.HandSPX L2
/-! ### own error classes whose __init__ says super().__init__(f"..") and self.x = x -/
def clsSt (st : Stmt) (k : Nat) : Stmt := match st with
  | .ClassDef _ _ _ body _ _ _ _ _ _ _ => body.getD k (.Pass ⟨0, 0, 0, 0⟩)
  | _ => .Pass ⟨0, 0, 0, 0⟩
/-- the value's text in an f-string -/
def ShowV (prog : Program) (w : World) (A : Around) (h0 : Heap) (v : Value) : Prop := ∀ (E : Value → Shared → Prop) (s : Shared) (Q : Value → Shared → Prop), (∀ b o, h0.get? b = some o → s.heap.get? b = some o) →
  (∀ h' u tk x, (∀ b o, s.heap.get? b = some o → h'.get? b = some o) → x.length ≤ 16000000 → Q (.str x u) { s with heap := h', toks := tk }) → wpAny (model prog w) A (formatField v Str.empty) Q E s
theorem showV_str {prog : Program} {w : World} {A : Around} {h0 : Heap} {x : Str} {t : Tok} (h : x.length ≤ 16000000) : ShowV prog w A h0 (.str x t) := fun E s Q k q =>
  wpAny_formatField_str (q s.heap t s.toks x (fun _ _ e => e) h) (q s.heap s.toks (s.toks + 1) x (fun _ _ e => e) h) (Nat.le_trans h (by decide))
theorem showV_int {prog : Program} {w : World} {A : Around} {h0 : Heap} {i : Int} {t : Tok} (h : i.natAbs.log2 < 1920) : ShowV prog w A h0 (.int i t) := fun E s Q k q =>
  wpAny_formatField_int h (q s.heap _ _ (toString i) (fun _ _ e => e) (by
    have e := int_text_length_le (k := 1920) (by decide) h
    show (Str.ofString (toString i)).length ≤ _
    rw [PySem.ofString_length]; omega))
theorem showV_data {prog : Program} {w : World} {A : Around} {h0 : Heap} {a : Addr} {d : PyData} {as : List Addr} (r : Reads h0 (.ref a) d as) (hs : d.showable = true) (hd : d.hasDict = false) (hg : A.guards = some []) (hu : A.units + (d.depth + 2) < cLine) (hl : d.shown.length ≤ 16000000) : ShowV prog w A h0 (.ref a) := fun E s Q k q =>
  formatField_of_reads r hs (fun z => by rw [hd] at z; cases z) hg hu k (fun h' u tk hk => q h' u tk _ hk hl) (Nat.le_trans hl (by decide))
inductive FParts (par : Str) : List Expr → Nat → Prop
  | nil : FParts par [] 0
  | txt {x : Str} {k : Nat} {pos : Pos} {es : List Expr} {n : Nat} (h : x.length ≤ 100) (r : FParts par es n) : FParts par (.Constant (.str x) k pos :: es) (n + 100)
  | val {q pos : Pos} {es : List Expr} {n : Nat} (r : FParts par es n) : FParts par (.FormattedValue (.Name par q) (-1) none pos :: es) (n + 16000000)
/-- the text of such an __init__ -/
structure ErrSt (st : Stmt) (par fld : Str) : Prop where
  body : ∃ (p0 p1 ap : Pos) (e1 e2 : Expr) (er : List Expr) (jp cp sp q1 q2 q3 q4 : Pos) (n : Nat), FParts par (e1 :: e2 :: er) n ∧ n ≤ 16000300 ∧ (ap.endLine == cp.line) = true ∧
    defBody st = [.Expr (.Call (.Attribute (.Call (.Name "super" p0) [] [] p1) "__init__" ap) [.JoinedStr (e1 :: e2 :: er) jp] [] cp) sp, .Assign [.Attribute (.Name "self" q1) fld q2] (.Name par q3) q4]
  scS : (defScope st).names.lookup ("self" : Str) = some .local
  scP : (defScope st).names.lookup par = some .local
  scX : (defScope st).names.lookup ("super" : Str) = some .globalImplicit
  scC : (defScope st).names.lookup ("__class__" : Str) = some .free
  ncell : ∀ x ∈ (defScope st).names, x.2 ≠ .cell
  co : (defScope st).isCoroutine = false
  gen : (defScope st).isGenerator = false
  kind : (defScope st).kind = .function
  hd : ∃ ar, ((defArgs st).posonlyargs ++ (defArgs st).args).head? = some ar ∧ ar.arg = "self"
  pd : (par == ("__debug__" : Str)) = false
  ps : par ≠ "self"
/-- what the written part says of the class at C, whose __init__ stands in the class at D -/
structure ErrTxt (prog : Program) (K : Frag) (qual : Str) (st : Stmt) (C D fI cc cda : Addr) (par fld : Str) : Prop where
  tx : ErrSt st par fld
  cls : ∃ nm q N bs bm sn sub ab col dd k0 k1 k2 k3 k5, K.lookup C = some (excClassObj nm q C N bs bm true sn sub ab col dd k0 k1 k2 k3 k5 "ValueError.__new__") ∧ refsVE bm = true
  sa : findIn K (.ref C) "__setattr__" = some (some (.builtin "object.__setattr__"))
  noN : findIn K (.ref C) fld = some none
  iC : findIn K (.ref C) "__init__" = some (some (.ref fI))
  tC : typeIn K (.ref fI) = some (.type "function")
  kC : keepIn K (.ref C) = true
  exC : subIn K (.ref C) (.type "BaseException") = some true
  veC : subIn K (.ref C) (.type "ValueError") = some true
  tyC : typeIn K (.ref C) = some (.type "type")
  sup : ks_superIn K C D "__init__" = some (some (.builtin "ValueError.__init__"))
  mCD : mroIn K C (.ref D) = some true
  clD : ∃ cd, clsIn K D = some cd
  cell : ∃ cl cld csl, K.lookup cc = some ⟨cl, cld, .cell (some (.ref D)), csl⟩
  code : ∃ ccl cdd vs ccs file tf, K.lookup cda = some ⟨ccl, cdd, .fields vs, ccs⟩ ∧ vs[2]? = some (.str file tf) ∧ ((prog.main.file : Str) == file) = true
  thp : nsIn K cStatics "thirdparty.any" = some none
  top : (prog.main.scope.names.lookup ("super" : Str)).isSome = false
  fn : ∃ (oc : Value) (od : Option Addr) (kV doc pm : Value) (an : Option Addr) (ct : Value) (osl : Array (Option Value)),
    K.lookup fI = some ⟨oc, od, .func (ksFn "__init__" qual (defArgs st) (defBody st) (defScope st) .none kV doc pm an (.ref cda) ct cc), osl⟩ ∧ codeIn K (.ref cda) qual = true ∧
    ∀ (s : Shared) (u v : Value), BindsTo s (ksFn "__init__" qual (defArgs st) (defBody st) (defScope st) .none kV doc pm an (.ref cda) ct cc) ⟨[u, v], []⟩ [("self", u), (par, v)]
structure InitEnd (fld : Str) (h h' : Heap) (x C dx t1 : Addr) (v : Value) : Prop where
  keep : ∀ b o, b ≠ x → h.get? b = some o → h'.get? b = some o
  obj : h'.get? x = some { cls := .ref C, dict := some dx, data := .fields #[.ref t1, .none, .none, .none, .bool false, .none] }
  dbig : h.objs.size ≤ dx
  dne : dx ≠ x
  ns : h'.Ns1 dx (fun y => if y = fld then some v else none)
section
variable {prog : Program} {w : World} {A : Around} {E : Value → Shared → Prop} {R : Result → Shared → Prop} {s : Shared} {K : Frag} {mg mb : Str → Option Value}
theorem ldK {M : Model} {qual : Str} {scope : Scope} {L a cc : Addr} {cd : Value} {m : Str → Option Value} {x : Str} {pos : Pos} {v : Value} {Q : Value → Shared → Prop} (hn : s.heap.Ns L m) (hv : m x = some v) (h : Q v s)
    (hk : scope.kind = .function) (hl : scope.names.lookup x = some .local) (hd : (x == ("__debug__" : Str)) = false) :
    wpAny M A (eval (.Name x pos) (ksEnv qual scope L a cd cc)) Q E s := wpAny_Name (wpAny_loadName_local hk hl hn hv h) hd
theorem fparts_join {qual : Str} {scope : Scope} {L a cc : Addr} {cd : Value} {par : Str} {v : Value} {h0 : Heap} {m : Str → Option Value} (hk : scope.kind = .function) (hl : scope.names.lookup par = some .local) (hd : (par == ("__debug__" : Str)) = false)
    (sv : ShowV prog w A h0 v) (hm : m par = some v) : ∀ {es : List Expr} {n : Nat}, FParts par es n → ∀ (acc : Str) (s : Shared) (R : Str → Shared → Prop), s.heap.Ns L m → (∀ b o, h0.get? b = some o → s.heap.get? b = some o) → acc.length + n ≤ 16000300 →
    (∀ out h' tk, (∀ b o, s.heap.get? b = some o → h'.get? b = some o) → out.length ≤ 16000300 → R out { s with heap := h', toks := tk }) → Joins (model prog w) A E (evalEach es (ksEnv qual scope L a cd cc)) acc R s := by
  intro es n f
  induction f with
  | nil =>
    intro acc s R hn k hl2 q
    have e0 : evalEach [] (ksEnv qual scope L a cd cc) = [] := by first | rfl | simp [evalEach]
    rw [e0]
    exact q acc s.heap s.toks (fun _ _ e => e) (by omega)
  | @txt x kk pos es n hx r ih =>
    intro acc s R hn k hl2 q
    have e0 : evalEach (.Constant (.str x) kk pos :: es) (ksEnv qual scope L a cd cc) = eval (.Constant (.str x) kk pos) (ksEnv qual scope L a cd cc) :: evalEach es (ksEnv qual scope L a cd cc) := by first | rfl | simp [evalEach]
    rw [e0]
    have al : (acc ++ x).length = acc.length + x.length := strLen_append _ _
    refine wpAny_Constant_str ⟨x, s.toks, rfl, by rw [al]; exact Nat.le_trans (show acc.length + x.length ≤ 16000300 by omega) (by decide), ih (acc ++ x) { s with toks := s.toks + 1 } R hn k (by rw [al]; omega) fun out h' tk hk ho => q out h' tk hk ho⟩
  | @val qp pos es n r ih =>
    intro acc s R hn k hl2 q
    have e0 : evalEach (.FormattedValue (.Name par qp) (-1) none pos :: es) (ksEnv qual scope L a cd cc) = eval (.FormattedValue (.Name par qp) (-1) none pos) (ksEnv qual scope L a cd cc) :: evalEach es (ksEnv qual scope L a cd cc) := by first | rfl | simp [evalEach]
    rw [e0]
    refine wpAny_FormattedValue_plain (ldK hn hm ?_ hk hl hd)
    refine sv E s _ k fun h' u tk x hk hx => ?_
    have al : (acc ++ x).length = acc.length + x.length := strLen_append _ _
    refine ⟨x, u, rfl, by rw [al]; exact Nat.le_trans (show acc.length + x.length ≤ 16000300 by omega) (by decide), ih (acc ++ x) { s with heap := h', toks := tk } R (hn.keeps hk) (fun b o e => hk b o (k b o e)) (by rw [al]; omega) fun out h2 tk2 hk2 ho => q out h2 tk2 (fun b o e => hk2 b o (hk b o e)) ho⟩
theorem super_at {c : Code} {o : Expr} {name : Str} {apos pos : Pos} {args : List Expr} {env : Env} {Q : Value → Shared → Prop} (hline : (apos.endLine == pos.line) = true)
    (hform : methodCallForm (args.length + ([] : List Keyword).length) (backTo pos (starEach args env)) (backToKw pos (keywordEach [] env)) = true)
    (h : PySem.wpAt (model prog w) A c (attributeBase o name env (eval o env)) (fun ov s₁ => ∀ pl, wpAny (model prog w) A (getMethod ov name pl) (fun fx s₂ => wpAny (model prog w) A (callWith pos fx.1 fx.2 (backTo pos (starEach args env)) []) Q E s₂) E s₁) E s) :
    PySem.wpAt (model prog w) A c (eval (.Call (.Attribute o name apos) args [] pos) env) Q E s := by
  rw [arm_eval_Call]
  refine PySem.wpAt_bind (ks_wpAt_mono h (fun ov s₁ h₁ => wpAt_of_wpAny (wpAny_bind (wpAny_standAt ?_))) fun _ _ x => x)
  have hpos : methodCallPos true o env apos pos = pure pos := by unfold methodCallPos; simp [hline]
  unfold methodCall
  rw [hform]
  refine wpAny_bind (wpAny_holding (wpAny_mono (h₁ _) (fun fx s₂ h₂ => ?_) fun _ _ x => x))
  exact wpAny_bind (wpAny_of_eq hpos h₂)
theorem err_init {C D fI cc cda : Addr} {par fld qual : Str} {st : Stmt} (T : ErrTxt prog K qual st C D fI cc cda par fld) {x t0 : Addr} {v : Value} (X : K.In s.heap) (G : s.heap.Ns mainGlobals mg) (hsup : mg "super" = none) (B : s.heap.Ns builtinsNs mb) (hb : mb "super" = some (.type "super"))
    (hlim : s.heap.NoLimit) (hx : s.heap.get? x = some (HandSPX.excO C t0)) (hnx : K.lookup x = none) (hroom : A.depth < recursionLimit) (sv : ∀ L, ShowV prog w (A.deeper (ksEnv qual (defScope st) L fI (.ref cda) cc)) s.heap v)
    (hq : ∀ h' tk dx t1, InitEnd fld s.heap h' x C dx t1 v → R (.ok (.ret .none)) { s with heap := h', toks := tk }) :
    codeAny (model prog w) A (.call (.ref fI) ⟨[.ref x, v], []⟩) R s := by
  obtain ⟨oc, od, kV, doc, pm, an, ct, osl, ho, hcd, hbd⟩ := T.fn
  obtain ⟨nm, q, N, bs, bm, sn, sub, ab, col, dd, k0, k1, k2, k3, k5, hC, hbm⟩ := T.cls
  obtain ⟨p0, p1, ap, e1, e2, er, jp, cp, sp, q1, q2, q3, q4, n, fp, hn16, hline, hbody⟩ := T.tx.body
  have hint : ∀ L : Addr, interactive (ksEnv qual (defScope st) L fI (.ref cda) cc) = false := fun L => by
    unfold interactive
    rw [show (ksEnv qual (defScope st) L fI (.ref cda) cc).scope.kind = .function from T.tx.kind]
    rfl
  obtain ⟨ar, har, hself⟩ := T.tx.hd
  obtain ⟨cdD, hD⟩ := T.clD
  obtain ⟨cl, cld, csl, hcell⟩ := T.cell
  obtain ⟨ccl, cdd, vs, ccs, file, tf, hcode, hvs, hfile⟩ := T.code
  have hcl : clsIn K C = some { name := nm, bases := bs, mro := .ref C :: bm, ns := N, qualname := q, hasDict := true, slotNames := sn, subclasses := sub, abstract := ab, collection := col, hasDel := false } := by unfold clsIn; rw [hC] <;> rfl
  refine ks_codeAny_call_defAt (fd := ksFn "__init__" qual (defArgs st) (defBody st) (defScope st) .none kV doc pm an (.ref cda) ct cc) (body := defBody st) (binds := [("self", .ref x), (par, v)]) hroom (X _ _ ho) rfl hlim (codeRec_of X hcd) rfl (hbd _ _ _) T.tx.ncell ?_ (fun h1 hn k => ?_) T.tx.co T.tx.gen T.tx.kind
  · intro y hy
    rcases List.mem_cons.mp hy with rfl | hy
    · exact T.tx.scS
    · rcases List.mem_cons.mp hy with rfl | hy
      · exact T.tx.scP
      · cases hy
  have m1 : (fun y => ([(("self" : Str), Value.ref x), (par, v)] : List (Str × Value)).reverse.lookup y) "self" = some (.ref x) := by
    have z : (("self" : Str) == par) = false := by simpa using fun e : ("self" : Str) = par => T.tx.ps e.symm
    simp [List.lookup, z]
  have m2 : (fun y => ([(("self" : Str), Value.ref x), (par, v)] : List (Str × Value)).reverse.lookup y) par = some v := by
    simp [List.lookup]
  have X1 : K.In h1 := X.keeps k
  have hx1 := k _ _ hx
  have hne : x ≠ C := fun z => by
    have hC1 := X _ _ hC
    rw [← z, hx] at hC1
    cases hC1
  rw [hbody]
  generalize hL : s.heap.objs.size = L at *
  show PySem.wpAt _ (A.deeper (ksEnv qual (defScope st) L fI (.ref cda) cc)) _ (execs _ (ksEnv qual (defScope st) L fI (.ref cda) cc)) _ _ _
  refine ks_wpAt_execs_cons (ks_wpAt_Expr_any (super_at hline (by rfl) ?_) (hint L))
  obtain ⟨hh, g, dr, tk, os⟩ := s
  dsimp only at *
  obtain ⟨oD, hD1, hD2⟩ : ∃ oD, h1.get? D = some oD ∧ oD.data = .cls cdD := by
    unfold clsIn at hD
    split at hD
    · rename_i c d cd' sl ho
      cases hD
      exact ⟨_, X1 _ _ ho, rfl⟩
    · cases hD
  refine ks_wpAt_super_base (env := ksEnv qual (defScope st) L fI (.ref cda) cc) T.tx.scX T.tx.scC (by decide) rfl (X1 _ _ ho) rfl har rfl (X1 _ _ hcode) rfl hvs hfile T.top ?_
  refine ks_loadName_global T.tx.kind T.tx.scX (loadGlobal_builtin (env := ksEnv qual (defScope st) L fI (.ref cda) cc) (G.keeps k) hsup (B.keeps k) hb ⟨rfl, ?_⟩)
  refine wpAny_loadName_free T.tx.kind T.tx.scC rfl ⟨_, X1 _ _ hcell, rfl⟩ ?_
  rw [hself]
  refine wpAny_loadName_local T.tx.kind T.tx.scS hn m1 ?_
  refine ks_wpAny_isType_cls hD1 hD2 ⟨rfl, ?_⟩
  refine ks_wpAny_call_super hD1 hD2 hx1 rfl (fun c e => by cases e) (looks_mroIn X1 T.mCD) (fun h2 e2' kk2 => ?_)
  have k2 : ∀ b o, hh.get? b = some o → h2.get? b = some o := fun b o e => kk2 b o (k b o e)
  have X2 : K.In h2 := X.keeps k2
  have I2 : InstAt h2 x (HandSPX.excO C t0) C none := ⟨k2 _ _ hx, rfl, rfl, trivial⟩
  have hI : Looks (model prog w) h2 (isInstance (.ref x) (.type "ValueError")) true := I2.type.andThen (looks_subIn X2 T.veC)
  have hm : ks_superIn K C D "__init__" = some (some (.builtin "ValueError.__init__")) := T.sup
  unfold ks_superIn at hm
  rw [hcl] at hm
  intro pl
  refine kxs_getMethod kxs_ValueError e2' (looks_opaque X2 T.thp) (l₀ := .ref C :: bm) (fun A Q E s k q => wpAny_bind ((looks_clsIn X2 hcl) A _ E s k (wpAny_pure q))) rfl X2 hm hI hne (by decide) ?_
  dsimp only
  generalize hu : h2.objs.size = u
  have ku : ∀ b o, h2.get? b = some o → (h2.push (kxs_mw "ValueError.__init__" x)).get? b = some o := fun b o e => Heap.get?_push_of_some _ e
  have hu3 : (h2.push (kxs_mw "ValueError.__init__" x)).get? u = some (kxs_mw "ValueError.__init__" x) := by rw [← hu]; exact Heap.get?_push_at rfl rfl
  generalize h2.push (kxs_mw "ValueError.__init__" x) = h3 at ku hu3
  have k3 : ∀ b o, hh.get? b = some o → h3.get? b = some o := fun b o e => ku b o (k2 b o e)
  have hn3 : h3.Ns L (fun y => ([(("self" : Str), Value.ref x), (par, v)] : List (Str × Value)).reverse.lookup y) := hn.keeps fun b o e => ku b o (kk2 b o e)
  refine kxs_callWith (i := "ValueError.__init__") (x := x) (by rfl) ?_
  refine evalArgs_plain ?_
  refine spliced_cons ?_
  refine wpAny_JoinedStr (pos := jp) (fparts_join T.tx.kind T.tx.scP T.tx.pd (sv L) m2 fp Str.empty _ _ hn3 k3 (by show 0 + n ≤ _; omega) fun out h4 tk4 hk4 hout => ⟨Nat.le_trans hout (by decide), ?_⟩)
  refine spliced_nil ⟨hk4 _ _ hu3, ?_⟩
  have k4 : ∀ b o, hh.get? b = some o → h4.get? b = some o := fun b o e => hk4 b o (k3 b o e)
  have X4 : K.In h4 := X.keeps k4
  have hC4 := X4 _ _ hC
  have hx4 := k4 _ _ hx
  have hu4 := hk4 _ _ hu3
  -- the call
  refine wpAny_call (codeAny_of_tree ?_)
  show wpAny _ (A.deeper (ksEnv qual (defScope st) L fI (.ref cda) cc)).in1 (callAny (.ref u) ⟨[] ++ [Value.str out tk4], []⟩) _ _ _
  simp only [callAny, List.nil_append]
  refine wpAny_bind (wpAny_load hu4 ?_)
  simp only [kxs_mw, show (Value.type "method-wrapper" == Value.type "method" || Value.type "method-wrapper" == Value.type "builtin_function_or_method" || Value.type "method-wrapper" == Value.type "method-wrapper") = true by decide, if_true]
  refine KFB.if_so (by decide) ?_
  refine wpAny_bind (check_bound_init F.excBase_ValueError.toExcCallFacts hC4 hx4 rfl ?_)
  refine wpAny_bind (wpAny_pure (wpAny_pure ?_))
  refine ⟨plainId_quiet F.excBase_ValueError.init.plain _, codeAny_builtin F.excBase_ValueError.initEntry ?_⟩
  refine exc_init_tree (cls := .ref C) (t0 := t0) (dv := none) (c2 := .none) (c3 := .none) (b4 := .bool false) hx4 (by show 1 ≤ sizeLine; decide) fun h5 k5' hx5 _ => ?_
  have k5 : ∀ b o, b ≠ x → hh.get? b = some o → h5.get? b = some o := fun b o hb e => k5' b o hb (k4 b o e)
  have hxL : L ≠ x := by rw [← hL]; exact Nat.ne_of_gt (Heap.lt_size hx)
  have hn5 : h5.Ns L (fun y => ([(("self" : Str), Value.ref x), (par, v)] : List (Str × Value)).reverse.lookup y) := by
    obtain ⟨o, es, ep, hoL, r⟩ := hn3
    exact ⟨o, es, ep, k5' _ _ hxL (hk4 _ _ hoL), r⟩
  have X5 : K.In h5 := fun a o e => k5' a o (fun z => by rw [z, hnx] at e; cases e) (X4 a o e)
  dsimp only
  refine ks_wpAt_execs_cons (wpAt_of_wpAny (plainObj_wpAny_Assign_Attribute ?_))
  refine ldK hn5 m2 (ldK hn5 m1 ?_ T.tx.kind T.tx.scS (by decide)) T.tx.kind T.tx.scP T.tx.pd
  refine set_plain X5 (ox := { cls := .ref C, dict := none, data := .fields #[.ref h4.objs.size, .none, .none, .none, .bool false, .none] }) (od := none) ⟨hx5, rfl, rfl, trivial⟩ T.sa ?_
  refine exc_osa X5 hx5 hcl (show refsVE (.ref C :: bm) = true from hbm) rfl T.noN (fun h6 tk6 dx k6 dn dne hx6 hn6 => ?_)
  refine wpAt_of_wpAny (wpAny_execs_nil (hq h6 tk6 dx h4.objs.size ⟨fun b o hb e => k6 b o hb (k5 b o hb e), hx6, ?_, dne, hn6⟩))
  have z : hh.objs.size < h5.objs.size := by rw [hL]; exact hn5.lt
  exact Nat.le_of_lt (Nat.lt_of_lt_of_le z dn)
end
end DL

namespace DL
open PySem PySem.W PySem.Calls PyProof.Rows PySem.HandSPX L2
theorem ShowV.mono {prog : Program} {w : World} {A : Around} {h0 h1 : Heap} {v : Value} (h : ShowV prog w A h0 v) (k : ∀ b o, h0.get? b = some o → h1.get? b = some o) : ShowV prog w A h1 v := fun E s Q k2 q => h E s Q (fun b o e => k2 b o (k b o e)) q
structure OwnMade (fld : Str) (h h' : Heap) (e C d : Addr) (v : Value) : Prop where
  keep : ∀ b o, h.get? b = some o → h'.get? b = some o
  new : h.objs.size ≤ e
  obj : ∃ oe vs, h'.get? e = some oe ∧ oe.cls = .ref C ∧ oe.dict = some d ∧ oe.data = .fields vs ∧ vs[1]? = some .none
  dbig : h.objs.size ≤ d
  dne : d ≠ e
  ns : h'.Ns1 d (fun y => if y = fld then some v else none)
theorem one_line (v : Value) : [v].length ≤ sizeLine := by
  rw [sizeLine_eq]; exact (by decide : 1 ≤ 16777216)
section
variable {prog : Program} {w : World} {A : Around} {E : Value → Shared → Prop} {R : Result → Shared → Prop} {s : Shared} {K : Frag} {mg mb : Str → Option Value}
theorem err_made {C D fI cc cda : Addr} {par fld qual : Str} {st : Stmt} (T : ErrTxt prog K qual st C D fI cc cda par fld) {v : Value} (X : K.In s.heap) (G : s.heap.Ns mainGlobals mg) (hsup : mg "super" = none) (B : s.heap.Ns builtinsNs mb) (hb : mb "super" = some (.type "super"))
    (hlim : s.heap.NoLimit) (hroom : A.depth + 1 < recursionLimit) (sv : ∀ L, ShowV prog w ((A.under (.builtin "type.__call__" ⟨.ref C :: [v], []⟩)).deeper (ksEnv qual (defScope st) L fI (.ref cda) cc)) s.heap v)
    (hq : ∀ h' tk e d, OwnMade fld s.heap h' e C d v → R (.ok (.ret (.ref e))) { s with heap := h', toks := tk }) :
    codeAny (model prog w) A (.call (.ref C) ⟨[v], []⟩) R s := by
  obtain ⟨nm, q, N, bs, bm, sn, sub, ab, col, dd, k0, k1, k2, k3, k5, hC, hbm⟩ := T.cls
  obtain ⟨hp, g, dr, tk, os⟩ := s
  have k : ∀ b o, hp.get? b = some o → ((hp.push (kdv_tup [v])).push (HandSPX.excO C hp.objs.size)).get? b = some o := fun b o e => Heap.get?_push_of_some _ (Heap.get?_push_of_some _ e)
  have hget : ((hp.push (kdv_tup [v])).push (HandSPX.excO C hp.objs.size)).get? (hp.objs.size + 1) = some (HandSPX.excO C hp.objs.size) := by heap_get
  have hnx : K.lookup (hp.objs.size + 1) = none := by
    cases e : K.lookup (hp.objs.size + 1) with
    | none => rfl
    | some o =>
      have z : hp.get? (hp.objs.size + 1) = some o := X _ _ e
      exact absurd (Nat.lt_of_succ_lt (Heap.lt_size z)) (Nat.lt_irrefl _)
  refine call_own F.excBase_ValueError (fun X => refsVE_contains X bm hbm) (X _ _ hC) (looks_findIn X T.iC) (fun self => bind_fn X self T.tC) (one_line v) ?_
  refine err_init (s := ⟨(hp.push (kdv_tup [v])).push (HandSPX.excO C hp.objs.size), g, dr, tk, os⟩) T (X.keeps k) (G.keeps k) hsup (B.keeps k) hb (hlim.keeps k) hget hnx ?_ (fun L => (sv L).mono k) fun h' tk' dx t1 ⟨k', hx, dn, dne, hns⟩ => ?_
  · have z : (A.under (.builtin "type.__call__" ⟨.ref C :: [v], []⟩)).depth = A.depth + 1 := make_depth
    rw [z]; exact hroom
  · have old : ∀ b o, hp.get? b = some o → h'.get? b = some o := fun b o e => k' b o (Nat.ne_of_lt (Nat.lt_succ_of_lt (Heap.lt_size e))) (k b o e)
    have z : hp.objs.size + 1 + 1 ≤ dx := by
      first
        | (simpa only [Heap.size_push] using dn)
        | exact dn
        | (have q := dn; rw [Heap.size_push, Heap.size_push] at q; exact q)
    exact ⟨rfl, hq h' tk' (hp.objs.size + 1) dx ⟨old, Nat.le_succ _, ⟨_, _, hx, rfl, rfl, rfl, rfl⟩, Nat.le_trans (Nat.le_trans (Nat.le_succ _) (Nat.le_succ _)) z, dne, hns⟩⟩
end
theorem make_guards {A : Around} {C : Addr} {us : List Value} {kw : List (Str × Value)} : (A.under (.builtin "type.__call__" ⟨.ref C :: us, kw⟩)).guards = A.guards := by
  first | rfl | simp [Around.under, Code.weight, Code.isCreation, Code.isGuard, Code.isCaller, Code.frames, Code.isFrame, guardIds]
theorem relO_fld {fld : Str} {v : V} {v' : Value} (r : RelV v v') (f : Str) : RelO (List.lookup f [(fld, v)]) (if f = fld then some v' else none) := by
  by_cases hw : f = fld
  · subst hw
    rw [if_pos rfl]
    have q : List.lookup f [(f, v)] = some v := by simp [List.lookup]
    rw [q]; exact r
  · rw [if_neg hw]
    have qw : (f == fld) = false := by simpa using hw
    have q2 : List.lookup f [(fld, v)] = none := by simp [List.lookup, qw]
    rw [q2]; trivial
/-- what an error's text can show -/
def Shows (K : Frag) (H : Hp) (v : V) : Prop := (∃ x, v = .str x ∧ x.length ≤ 16000000) ∨ (∃ i, v = .int i ∧ i.natAbs.log2 < 1920) ∨
  ∃ a q, v = .ref a ∧ Dp K H (.ref a) q ∧ q.showable = true ∧ q.hasDict = false ∧ q.depth ≤ 60 ∧ q.shown.length ≤ 16000000
def tMkErr (K : Frag) (C : Addr) (fld : Str) (ta : TA) : L2.St → Hp → XK → Prop := fun σ H Q => ta σ H fun vs H1 => ∃ v, vs = [v] ∧ Shows K H1 v ∧ ∀ d, H1 d = none → Q (.ref C) (some d) (upd H1 d (.xd [(fld, v)]))
section
variable {X : Cx}
theorem pmk_err {C D fI cc cda : Addr} {par fld qual x : Str} {st : Stmt} {a : Expr} {ta : TA} {p pos : Pos} {k : Nat} (T : ErrTxt X.prog X.K qual st C D fI cc cda par fld) (hm : X.mg x = some (.ref C)) (hsup : X.mg "super" = none) (hr : RoomG k X.A) (ha : PA X [a] ta) (hg : Gl X x)
    (hdb : (x == ("__debug__" : Str)) = false := by decide) (he : starEach (a :: []) X.env = (false, eval a X.env) :: starEach [] X.env := by rfl) (hpl : (backTo pos (starEach [] X.env)).any (·.1) = false := by rfl) :
    PMk X (.Call (.Name x p) [a] [] pos) (tMkErr X.K C fld ta) := by
  intro pins s σ H Q I h
  refine wpAny_Call_Name_kw (ld_glob I hg hm ?_ hdb)
  refine PySem.W.callWith_K (h₀ := X.base) I.ok.mod.kin T.kC (thn (ha.run pos pins s σ H _ I h) fun us s1 hh => ?_) he hpl
  obtain ⟨vs, H1, I1, r1, v, ev, shw, q1⟩ := hh
  subst ev
  refine ⟨I1.kIn, ?_⟩
  cases r1 with
  | cons rv rn =>
    rename_i v' us'
    cases rn
    show wpAny _ _ (call (.ref C) [v']) _ _ _
    have hlim := I1.nolimit
    have hG : s1.heap.Ns mainGlobals X.mg := I1.mod.glob.keeps I1.bk
    obtain ⟨mb, b1, b2⟩ := I1.mod.blt
    have hB := b1.keeps I1.bk
    have hb : mb "super" = some (.type "super") := (b2 "super" (by decide +kernel)).trans (by decide +kernel)
    have un := hr.units
    have sv : ∀ L, ShowV X.prog X.w ((X.A.under (.builtin "type.__call__" ⟨.ref C :: [v'], []⟩)).deeper (ksEnv qual (defScope st) L fI (.ref cda) cc)) s1.heap v' := fun L => by
      rcases shw with ⟨z, rfl, hz⟩ | ⟨i, rfl, hi⟩ | ⟨b, y, rfl, dp, c1, c2, c3, c4⟩
      · obtain ⟨t, rfl⟩ := rv
        exact showV_str hz
      · obtain ⟨t, rfl⟩ := rv
        exact showV_int hi
      · obtain rfl : v' = Value.ref b := rv
        obtain ⟨as, rd⟩ := Dp.reads I1 y _ _ dp (show RelV (.ref b) (.ref b) from rfl)
        have zu : (X.A.under (.builtin "type.__call__" ⟨.ref C :: [Value.ref b], []⟩)).units = X.A.units + 1 := make_units
        have zg : (X.A.under (.builtin "type.__call__" ⟨.ref C :: [Value.ref b], []⟩)).guards = X.A.guards := make_guards
        refine showV_data rd c1 c2 ?_ ?_ c4
        · show (X.A.under (.builtin "type.__call__" ⟨.ref C :: [Value.ref b], []⟩)).guards = some []
          rw [zg]; exact hr.gd
        · show (X.A.under (.builtin "type.__call__" ⟨.ref C :: [Value.ref b], []⟩)).units + 3 + (y.depth + 2) < cLine
          have := hr.toRoom.un
          rw [zu]; omega
    obtain ⟨hp, g, dr, tk, os⟩ := s1
    refine wpAny_call (err_made T I1.kIn hG hsup hB hb hlim (by have := hr.toRoom.dp; omega) sv fun h' tk' e d M => ?_)
    show MkP X pins σ Q (.ref e) ⟨h', g, dr, tk', os⟩
    obtain ⟨oe, fv, hoe, hc, hd, hdat, h1⟩ := M.obj
    have hns := M.ns
    obtain ⟨G', g1, g2⟩ := restrict h' fun b => decide (b ≠ e)
    have gk : ∀ b, b ≠ e → G'.get? b = h'.get? b := fun b hb => g1 b (decide_eq_true hb)
    have ge : G'.get? e = none := g2 e (by simp)
    have old : ∀ b o, hp.get? b = some o → G'.get? b = some o := fun b o q => (gk b (Nat.ne_of_lt (Nat.lt_of_lt_of_le (Heap.lt_size q) M.new))).trans (M.keep b o q)
    have ob : ObjOk X.prog X.w (upd H1 d (.xd [(fld, v)])) G' d (.xd [(fld, v)]) :=
      ⟨_, hns.at (fun o q => (gk d M.dne).trans q), fun f => relO_fld rv f⟩
    have J : Inv X pins σ (upd H1 d (.xd [(fld, v)])) ⟨G', g, dr, tk', os⟩ := I1.laid (t' := tk') old M.dbig ob
    refine ⟨e, oe, fv, ⟨G', g, dr, tk', os⟩, _, .ref C, some d, rfl, J, fun b o q => ?_, ge, hoe, ⟨hc, hd⟩, hdat, h1, ?_, rfl, I1.bare, raises_own T.exC T.tyC, q1 d (I1.hok.fresh M.dbig)⟩
    · by_cases hb : b = e
      · have q' : G'.get? b = some o := q
        rw [hb, ge] at q'; cases q'
      · exact (gk b hb).symm.trans q
    · rw [upd_ne (Ne.symm M.dne)]
      exact I1.hok.fresh M.new
end
/-! ### raise X(e) -/
def shOk : D → Bool
  | .str x => decide (x.length ≤ 16000000)
  | .int i => decide (i.natAbs.log2 < 1920)
  | d => match toPy d with
    | some q => isSq d && q.showable && !q.hasDict && decide (q.depth ≤ 60) && decide (q.shown.length ≤ 16000000)
    | none => false
def sRaise (c : Nat) (fld : Str) (e : De) : Ds := fun Γ S => after (e Γ S) Γ fun d S1 => if shOk d = true then .exc ⟨c, [fld], [d]⟩ Γ S1 else .stuck
theorem shOk_shows {C : Cn} {ρ : List Addr} {G H : Hp} (s : SubH C G H) {d : D} {v : V} (h : shOk d = true) (r : Rep C ρ G d v) : Shows C.K H v := by
  have key : (match toPy d with
    | some q => isSq d && q.showable && !q.hasDict && decide (q.depth ≤ 60) && decide (q.shown.length ≤ 16000000)
    | none => false) = true → Shows C.K H v := fun h => by
    split at h
    · rename_i q hq
      simp only [Bool.and_eq_true, decide_eq_true_eq, Bool.not_eq_true'] at h
      obtain ⟨⟨⟨⟨h1, h2⟩, h3⟩, h4⟩, h5⟩ := h
      have dp := dp_of s d v q r hq
      have : ∃ a, v = V.ref a := by
        cases d <;> try cases h1
        · obtain ⟨a, vs, rfl, _⟩ := rep_lst.mp r; exact ⟨a, rfl⟩
        · obtain ⟨a, vs, rfl, _⟩ := rep_tup.mp r; exact ⟨a, rfl⟩
      obtain ⟨a, rfl⟩ := this
      exact .inr (.inr ⟨a, q, rfl, dp, h2, h3, h4, h5⟩)
    · cases h
  cases d with
  | str x => exact .inl ⟨x, rep_str.mp r, of_decide_eq_true h⟩
  | int i => exact .inr (.inl ⟨i, rep_int.mp r, of_decide_eq_true h⟩)
  | _ => exact key h
section
variable {X : Cx} {cls : Nat → Addr} {W : WX}
theorem ds_raise {c k : Nat} {D0 fI cc cda : Addr} {par fld qual x : Str} {st : Stmt} {a : Expr} {δ : De} {p pos pos2 : Pos} (hc : X.calm = true) (T : ErrTxt X.prog X.K qual st (cls (c + 3)) D0 fI cc cda par fld) (hm : X.mg x = some (.ref (cls (c + 3)))) (hsup : X.mg "super" = none) (hr : RoomG k X.A) (tk : Takes X W) (hg : Gl X x) (ha : DE X cls W a δ)
    (hdb : (x == ("__debug__" : Str)) = false := by decide) (he : starEach (a :: []) X.env = (false, eval a X.env) :: starEach [] X.env := by rfl) (hpl : (backTo pos (starEach [] X.env)).any (·.1) = false := by rfl) :
    DS X cls W (.Raise (some (.Call (.Name x p) [a] [] pos)) none pos2) (sRaise c fld δ) :=
  PS.weak (ps_raise hc tk (pmk_err T hm hsup hr (pa_cons ha pa_nil he) hg hdb he hpl)) fun Dn σ H ⟨en, Γ, S, ρ, G, s, p⟩ => ⟨Γ, S, ρ, G, s.mem, post_after s p fun d S1 ρ1 G1 H1 v m n s1 r p1 => by
    split at p1
    · rename_i hsh
      refine ⟨v, rfl, shOk_shows (C := ⟨X.K, cls⟩) m.sub hsh r, fun d1 hd1 => ?_⟩
      obtain ⟨m', n', np, gp⟩ := m.new (o := .xd [(fld, v)]) hd1
      obtain ⟨m2, n2, k2⟩ := Mem.settle m n' m' hd1 gp np upd_same
      exact p1 _ _ ρ1 _ _ σ (s1.step m2 n2) ⟨rfl, (fun z => by cases z), fun _ => ⟨d1, [v], rfl, upd_same, rfl, .cons (r.mono k2 (List.prefix_refl _)) .nil⟩⟩
    · exact p1.elim⟩
end
end DL

namespace DL
open PySem PySem.Spec PyProof.Rows L2
/-! ### try, except -/
def isX : Sl → Bool | .xcp _ => true | _ => false
def noX (Γ : List Sl) : Bool := Γ.all fun s => !isX s
theorem noX_get {Γ : List Sl} (h : noX Γ = true) {i : Nat} {x : Exn} (e : Γ[i]? = some (.xcp x)) : False := by
  have := List.all_eq_true.mp h _ (List.mem_of_getElem? e)
  cases this
section
variable {C C' : Cn} {ρ : List Addr} {G H : Hp}
mutual
theorem Rep.re (hK : C'.K = C.K) (hc : ∀ n, C'.cls (n + 3) = C.cls (n + 3)) : ∀ (d : D) (v : V), Rep C ρ G d v → Rep C' ρ G d v
  | .non, _, h => by rw [Rep] at h ⊢; exact h
  | .bl _, _, h => by rw [Rep] at h ⊢; exact h
  | .int _, _, h => by rw [Rep] at h ⊢; exact h
  | .str _, _, h => by rw [Rep] at h ⊢; exact h
  | .lst xs, _, h => by
    rw [Rep] at h ⊢
    obtain ⟨a, vs, rfl, h1, h2⟩ := h
    exact ⟨a, vs, rfl, h1, Reps.re hK hc xs vs h2⟩
  | .tup xs, _, h => by
    rw [Rep] at h ⊢
    obtain ⟨a, vs, rfl, h1, h2⟩ := h
    exact ⟨a, vs, rfl, by rw [hK]; exact h1, Reps.re hK hc xs vs h2⟩
  | .dct ks xs, _, h => by
    rw [Rep] at h ⊢
    obtain ⟨a, vs, rfl, h1, h3, h2⟩ := h
    exact ⟨a, vs, rfl, h1, h3, Reps.re hK hc xs vs h2⟩
  | .ins c ns xs, _, h => by
    rw [Rep] at h ⊢
    obtain ⟨a, dx, vs, rfl, h1, h3, h2⟩ := h
    exact ⟨a, dx, vs, rfl, by rw [hc]; exact h1, h3, Reps.re hK hc xs vs h2⟩
  | .ptr _, _, h => by rw [Rep] at h ⊢; exact h
  | .scr ns, _, h => by
    rw [Rep] at h ⊢
    obtain ⟨a, rfl, h1⟩ := h
    exact ⟨a, rfl, by rw [hK]; exact h1⟩
theorem Reps.re (hK : C'.K = C.K) (hc : ∀ n, C'.cls (n + 3) = C.cls (n + 3)) : ∀ (d : List D) (v : List V), Reps C ρ G d v → Reps C' ρ G d v
  | [], _, h => by rw [Reps] at h ⊢; exact h
  | x :: xs, _, h => by
    rw [Reps] at h ⊢
    obtain ⟨v, r, rfl, h1, h2⟩ := h
    exact ⟨v, r, rfl, Rep.re hK hc x v h1, Reps.re hK hc xs r h2⟩
end
theorem ObAt.re {a : Addr} (hK : C'.K = C.K) (hc : ∀ n, C'.cls (n + 3) = C.cls (n + 3)) : ∀ {d : D}, ObAt C ρ G H a d → ObAt C' ρ G H a d
  | .lst xs, ⟨vs, h, r⟩ => ⟨vs, h, Reps.re hK hc _ _ r⟩
  | .dct ks xs, ⟨vs, h, l, r⟩ => ⟨vs, h, l, Reps.re hK hc _ _ r⟩
  | .ins c ns xs, ⟨dx, vs, h, l, r⟩ => ⟨dx, vs, by rw [hc]; exact h, l, Reps.re hK hc _ _ r⟩
theorem SubH.re (hc : ∀ n, C'.cls (n + 3) = C.cls (n + 3)) (m : SubH C G H) : SubH C' G H := ⟨m.at_, fun i z => by
  have e : C'.cls (i + 1000) = C.cls (i + 1000) := hc (i + 997)
  rw [e] at z ⊢
  exact m.tab i z⟩
theorem Mem.re {Γ : List Sl} {S : List D} {σ : L2.St} (hK : C'.K = C.K) (hc : ∀ n, C'.cls (n + 3) = C.cls (n + 3)) (hx : noX Γ = true) (m : Mem C Γ S ρ G H σ) : Mem C' Γ S ρ G H σ where
  sub := m.sub.re hc
  val := fun i d h => by
    obtain ⟨v, e, r⟩ := m.val i d h
    exact ⟨v, e, r.re hK hc⟩
  own := fun i d h => by
    obtain ⟨a, e, r, z⟩ := m.own i d h
    exact ⟨a, e, r.re hK hc, z⟩
  inj := m.inj
  sto := fun i d h => by
    obtain ⟨a, e, r⟩ := m.sto i d h
    exact ⟨a, e, r.re hK hc⟩
  stG := m.stG
  len := m.len
  nd := m.nd
  wid := m.wid
  xcp := fun i x h => (noX_get hx h).elim
theorem SI.re {en : Ent} {Γ : List Sl} {S : List D} {σ : L2.St} (hK : C'.K = C.K) (hc : ∀ n, C'.cls (n + 3) = C.cls (n + 3)) (hx : noX Γ = true) (s : SI C en Γ S ρ G H σ) : SI C' en Γ S ρ G H σ := ⟨s.mem.re hK hc hx, s.nx, s.frs, s.base, s.basr, s.old⟩
/-- a slot takes the error -/
theorem SI.setx {en : Ent} {Γ : List Sl} {S : List D} {σ : L2.St} (s : SI C en Γ S ρ G H σ) (i : Nat) {x : Exn} (r : XOk C ρ G x) : SI C en (Γ.set i (.xcp x)) S ρ G H (σ.set i (some (V.ref (C.cls 0)))) := by
  have ne : ∀ (j : Nat) (y : Sl), (∀ z, y ≠ .xcp z) → (Γ.set i (Sl.xcp x))[j]? = some y → i ≠ j ∧ Γ[j]? = some y := fun j y hy h => by
    by_cases e : i = j
    · subst e
      by_cases hl : i < Γ.length
      · rw [List.getElem?_set_self hl] at h; cases h; exact absurd rfl (hy x)
      · rw [List.getElem?_eq_none (by simpa using hl)] at h; cases h
    · rw [List.getElem?_set_ne e] at h; exact ⟨e, h⟩
  refine ⟨⟨s.mem.sub, fun j d h => ?_, fun j d h => ?_, fun j k d d' a h1 h2 => ?_, s.mem.sto, s.mem.stG, s.mem.len, s.mem.nd, by rw [List.length_set, List.length_set]; exact s.mem.wid, fun j y h => ?_⟩, s.nx, fun j d a h1 h2 => ?_, s.base, s.basr, s.old⟩
  · obtain ⟨e, g⟩ := ne j (.val d) (fun z w => by cases w) h
    rw [List.getElem?_set_ne e]; exact s.mem.val j d g
  · obtain ⟨e, g⟩ := ne j (.own d) (fun z w => by cases w) h
    rw [List.getElem?_set_ne e]; exact s.mem.own j d g
  · obtain ⟨e1, g1⟩ := ne j (.own d) (fun z w => by cases w) h1
    obtain ⟨e2, g2⟩ := ne k (.own d') (fun z w => by cases w) h2
    rw [List.getElem?_set_ne e1, List.getElem?_set_ne e2]
    exact s.mem.inj j k d d' a g1 g2
  · by_cases e : i = j
    · subst e
      by_cases hl : i < Γ.length
      · rw [List.getElem?_set_self hl] at h; cases h
        exact ⟨List.getElem?_set_self (by rw [← s.mem.wid]; exact hl), r⟩
      · rw [List.getElem?_eq_none (by simpa using hl)] at h; cases h
    · rw [List.getElem?_set_ne e] at h
      rw [List.getElem?_set_ne e]; exact s.mem.xcp j y h
  · obtain ⟨e, g⟩ := ne j (.own d) (fun z w => by cases w) h1
    rw [List.getElem?_set_ne e] at h2; exact s.frs j d a g h2
/-- .. and gives it back -/
theorem SI.unset {en : Ent} {Γ : List Sl} {S : List D} {σ : L2.St} (s : SI C en Γ S ρ G H σ) (i : Nat) : SI C en (Γ.set i .non) S ρ G H (σ.set i none) := by
  have ne : ∀ (j : Nat) (y : Sl), y ≠ .non → (Γ.set i Sl.non)[j]? = some y → i ≠ j ∧ Γ[j]? = some y := fun j y hy h => by
    by_cases e : i = j
    · subst e
      by_cases hl : i < Γ.length
      · rw [List.getElem?_set_self hl] at h; cases h; exact absurd rfl hy
      · rw [List.getElem?_eq_none (by simpa using hl)] at h; cases h
    · rw [List.getElem?_set_ne e] at h; exact ⟨e, h⟩
  refine ⟨⟨s.mem.sub, fun j d h => ?_, fun j d h => ?_, fun j k d d' a h1 h2 => ?_, s.mem.sto, s.mem.stG, s.mem.len, s.mem.nd, by rw [List.length_set, List.length_set]; exact s.mem.wid, fun j y h => ?_⟩, s.nx, fun j d a h1 h2 => ?_, s.base, s.basr, s.old⟩
  · obtain ⟨e, g⟩ := ne j (.val d) (fun w => by cases w) h
    rw [List.getElem?_set_ne e]; exact s.mem.val j d g
  · obtain ⟨e, g⟩ := ne j (.own d) (fun w => by cases w) h
    rw [List.getElem?_set_ne e]; exact s.mem.own j d g
  · obtain ⟨e1, g1⟩ := ne j (.own d) (fun w => by cases w) h1
    obtain ⟨e2, g2⟩ := ne k (.own d') (fun w => by cases w) h2
    rw [List.getElem?_set_ne e1, List.getElem?_set_ne e2]
    exact s.mem.inj j k d d' a g1 g2
  · obtain ⟨e, g⟩ := ne j (.xcp y) (fun w => by cases w) h
    rw [List.getElem?_set_ne e]; exact s.mem.xcp j y g
  · obtain ⟨e, g⟩ := ne j (.own d) (fun w => by cases w) h1
    rw [List.getElem?_set_ne e] at h2; exact s.frs j d a g h2
end
/-- the classes by number, while an error is handled -/
def xcls (cls : Nat → Addr) (a : Addr) (d : Option Addr) (v : Value) : Nat → Addr
  | 0 => a
  | 1 => match d with | some d => d + 1 | none => 0
  | 2 => match v with | .ref r => r | _ => 0
  | n + 3 => cls (n + 3)
structure Su (cls cls' : Nat → Addr) (a : Addr) (oe : Obj) : Prop where
  a0 : cls' 0 = a
  z : Zc (.ref (cls' 2)) (match cls' 1 with | 0 => none | d + 1 => some d) oe
  f : ∃ vs, oe.data = .fields vs
  up : ∀ n, cls' (n + 3) = cls (n + 3)
def setxD (i : Option Nat) (e : Exn) (Γ : List Sl) : List Sl := match i with | some i => Γ.set i (.xcp e) | none => Γ
def unxD (i : Option Nat) (Γ : List Sl) : List Sl := match i with | some i => Γ.set i .non | none => Γ
def unx (i : Option Nat) : Out → Out
  | .next Γ S => if noX (unxD i Γ) then .next (unxD i Γ) S else .stuck
  | .brk Γ S => if noX (unxD i Γ) then .brk (unxD i Γ) S else .stuck
  | .cont Γ S => if noX (unxD i Γ) then .cont (unxD i Γ) S else .stuck
  | .ret d S => .ret d S
  | _ => .stuck
def sTry (i : Option Nat) (f : Nat → Option Bool) (b h : Ds) : Ds := fun Γ S => match b Γ S with
  | .exc e Γ1 S1 => match f e.c with
    | some true => if noX Γ1 then unx i (h (setxD i e Γ1) S1) else .stuck
    | some false => .exc e Γ1 S1
    | none => .stuck
  | o => o
theorem PSs.given {X : Cx} {st : List Stmt} {t : TS} {p : Prop} (h : p → PSs X st t) : PSs X st (fun D σ H => p ∧ t D σ H) := ⟨fun pins s σ H D I h' => (h h'.1).run pins s σ H D I h'.2⟩
section
variable {X : Cx} {cls : Nat → Addr} {W : WX} {x n : Str} {i : Nat} {CX : Addr} {body suite : List Stmt} {b₀ : Stmt} {np pos pos' : Pos} {δb δh : Ds} {f : Nat → Option Bool}
def tsD (X : Cx) (cls : Nat → Addr) (δh : Ds) (a : Addr) (clsv : Value) (d : Option Addr) : TS := fun D σ H => clsv = .ref (xcls cls a d clsv 2) ∧ tS ⟨X.K, xcls cls a d clsv⟩ W0 δh D σ H
theorem su_of {a : Addr} {oe : Obj} {clsv : Value} {d : Option Addr} (hz : Zc clsv d oe) (hf : ∃ vs, oe.data = .fields vs) (e : clsv = .ref (xcls cls a d clsv 2)) : Su cls (xcls cls a d clsv) a oe := ⟨rfl, by
  rw [← e]
  cases d with
  | none => exact hz
  | some d => exact hz, hf, fun n => rfl⟩
theorem try_core {C C' : Cn} {en : Ent} {Dn : Ends} {oi : Option Nat} {o : Out} (hK : C'.K = C.K) (hc : ∀ n, C'.cls (n + 3) = C.cls (n + 3)) {un : L2.St → L2.St} (hun : ∀ Γ S ρ G H σ, SI C' en Γ S ρ G H σ → SI C' en (unxD oi Γ) S ρ G H (un σ))
    (p : PostS C W en Dn (unx oi o)) : PostS C' W0 en { nx := fun σ H => Dn.nx (un σ) H, rt := Dn.rt, bk := fun σ H => Dn.bk (un σ) H, ct := fun σ H => Dn.ct (un σ) H } o := by
  have hK' := hK.symm
  have hc' : ∀ n, C.cls (n + 3) = C'.cls (n + 3) := fun n => (hc n).symm
  cases o with
  | next Γ S =>
    replace p : PostS C W en Dn (if noX (unxD oi Γ) = true then .next (unxD oi Γ) S else .stuck) := p
    split at p
    · rename_i hx
      exact fun ρ G H σ s => p ρ G H _ ((hun _ _ _ _ _ _ s).re hK' hc' hx)
    · exact p.elim
  | brk Γ S =>
    replace p : PostS C W en Dn (if noX (unxD oi Γ) = true then .brk (unxD oi Γ) S else .stuck) := p
    split at p
    · rename_i hx
      exact fun ρ G H σ s => p ρ G H _ ((hun _ _ _ _ _ _ s).re hK' hc' hx)
    · exact p.elim
  | cont Γ S =>
    replace p : PostS C W en Dn (if noX (unxD oi Γ) = true then .cont (unxD oi Γ) S else .stuck) := p
    split at p
    · rename_i hx
      exact fun ρ G H σ s => p ρ G H _ ((hun _ _ _ _ _ _ s).re hK' hc' hx)
    · exact p.elim
  | ret d S => exact fun v ρ G H m n o r => p v ρ G H (Mem.re hK' hc' rfl m) n o (r.re hK' hc')
  | exc e Γ S => exact p.elim
  | stuck => exact p.elim
theorem xok_of {ρ : List Addr} {G H : Hp} {e : Exn} {clsv : Value} {d : Option Addr} {a : Addr} (er : ExRep ⟨X.K, cls⟩ ρ G H e clsv d) : clsv = .ref (xcls cls a d clsv 2) ∧ XOk ⟨X.K, xcls cls a d clsv⟩ ρ G e := by
  obtain ⟨e1, e2, e3⟩ := er
  subst e1
  refine ⟨rfl, rfl, fun z => ?_, fun z => ?_⟩
  · rw [e2 z]; rfl
  · obtain ⟨d1, vs, rfl, g, l, r⟩ := e3 z
    exact ⟨d1, vs, rfl, g, l, Reps.re (C := ⟨X.K, cls⟩) (C' := ⟨X.K, xcls cls a (some d1) _⟩) rfl (fun n => rfl) _ _ r⟩
theorem ds_try_as (hs : X.stack = X.env :: X.outer) (hfr : X.env.frame = some X.env.locals) (hN : X.N.Nodup) (hi : X.N[i]? = some n) (hln : X.env.kindOf n = some .local) (hc : Names X x (.ref CX)) (tk : Takes X W)
    (hf : ∀ c b, f c = some b → PySem.W.exmOne X.K (.ref (cls (c + 3))) (.ref CX) = some b)
    (hb : ∀ (W : WX) (pn : List (Addr × Obj)) (xe : Value → Shared → Prop), Takes (X.tr pn xe) W → PassesOwn (model X.prog X.w) X.A X.env xe → DSs (X.tr pn xe) cls W body δb)
    (hsu : ∀ (a : Addr) (oe : Obj) (pn : List (Addr × Obj)) (cls' : Nat → Addr), Su cls cls' a oe → DSs (X.suite a ((a, oe) :: pn)) cls' W0 (b₀ :: suite) δh) :
    DS X cls W (.Try body [.ExceptHandler (some (.Name x np)) (some n) (b₀ :: suite) pos'] [] [] pos) (sTry (some i) f δb δh) :=
  PS.weak (ps_try_as (tb := fun W => tS ⟨X.K, cls⟩ W δb) (ts := tsD X cls δh) hs hfr hN hi hln hc tk (fun W pn xe tk hp => hb W pn xe tk hp)
    (fun a oe clsv d pn hz hf => PSs.given fun e => hsu a oe pn _ (su_of hz hf e))) fun Dn σ H ⟨en, Γ, S, ρ, G, s, p⟩ => ⟨en, Γ, S, ρ, G, s, by
    unfold sTry at p
    cases q : δb Γ S with
    | next Γ1 S1 => rw [q] at p; exact p
    | brk Γ1 S1 => rw [q] at p; exact p
    | cont Γ1 S1 => rw [q] at p; exact p
    | ret d S1 => rw [q] at p; exact p
    | stuck => rw [q] at p; exact p
    | exc e Γ1 S1 =>
      rw [q] at p
      intro clsv dx ρ1 G1 H1 σ1 s1 er
      have ec : clsv = .ref (cls (e.c + 3)) := er.1
      simp only at p
      cases hfe : f e.c with
      | none => rw [hfe] at p; exact p.elim
      | some b =>
        rw [hfe] at p
        refine ⟨b, by rw [ec]; exact hf _ _ hfe, fun hbt a na => ?_, fun hbf => ?_⟩
        · subst hbt
          simp only at p
          split at p
          · rename_i hx
            obtain ⟨z1, z2⟩ := xok_of (X := X) (a := a) er
            have s2 := (SI.re (C := ⟨X.K, cls⟩) (C' := ⟨X.K, xcls cls a dx clsv⟩) rfl (fun n => rfl) hx s1).setx i z2
            exact ⟨z1, en, _, S1, ρ1, G1, s2, try_core (C := ⟨X.K, cls⟩) (C' := ⟨X.K, xcls cls a dx clsv⟩) (oi := some i) rfl (fun n => rfl) (fun _ _ _ _ _ _ s => s.unset i) p⟩
          · exact p.elim
        · subst hbf
          exact p clsv dx ρ1 G1 H1 σ1 s1 er⟩
theorem ds_try_only (hs : X.stack = X.env :: X.outer) (hfr : X.env.frame = some X.env.locals) (hc : Names X x (.ref CX)) (tk : Takes X W)
    (hf : ∀ c b, f c = some b → PySem.W.exmOne X.K (.ref (cls (c + 3))) (.ref CX) = some b)
    (hb : ∀ (W : WX) (pn : List (Addr × Obj)) (xe : Value → Shared → Prop), Takes (X.tr pn xe) W → PassesOwn (model X.prog X.w) X.A X.env xe → DSs (X.tr pn xe) cls W body δb)
    (hsu : ∀ (a : Addr) (oe : Obj) (pn : List (Addr × Obj)) (cls' : Nat → Addr), Su cls cls' a oe → DSs (X.suite a ((a, oe) :: pn)) cls' W0 (b₀ :: suite) δh) :
    DS X cls W (.Try body [.ExceptHandler (some (.Name x np)) none (b₀ :: suite) pos'] [] [] pos) (sTry none f δb δh) :=
  PS.weak (ps_try_only (tb := fun W => tS ⟨X.K, cls⟩ W δb) (ts := tsD X cls δh) hs hfr hc tk (fun W pn xe tk hp => hb W pn xe tk hp)
    (fun a oe clsv d pn hz hf => PSs.given fun e => hsu a oe pn _ (su_of hz hf e))) fun Dn σ H ⟨en, Γ, S, ρ, G, s, p⟩ => ⟨en, Γ, S, ρ, G, s, by
    unfold sTry at p
    cases q : δb Γ S with
    | next Γ1 S1 => rw [q] at p; exact p
    | brk Γ1 S1 => rw [q] at p; exact p
    | cont Γ1 S1 => rw [q] at p; exact p
    | ret d S1 => rw [q] at p; exact p
    | stuck => rw [q] at p; exact p
    | exc e Γ1 S1 =>
      rw [q] at p
      intro clsv dx ρ1 G1 H1 σ1 s1 er
      have ec : clsv = .ref (cls (e.c + 3)) := er.1
      simp only at p
      cases hfe : f e.c with
      | none => rw [hfe] at p; exact p.elim
      | some b =>
        rw [hfe] at p
        refine ⟨b, by rw [ec]; exact hf _ _ hfe, fun hbt a na => ?_, fun hbf => ?_⟩
        · subst hbt
          simp only at p
          split at p
          · rename_i hx
            obtain ⟨z1, z2⟩ := xok_of (X := X) (a := a) er
            have s2 := SI.re (C := ⟨X.K, cls⟩) (C' := ⟨X.K, xcls cls a dx clsv⟩) rfl (fun n => rfl) hx s1
            exact ⟨z1, en, _, S1, ρ1, G1, s2, try_core (C := ⟨X.K, cls⟩) (C' := ⟨X.K, xcls cls a dx clsv⟩) (oi := none) (un := fun σ => σ) rfl (fun n => rfl) (fun _ _ _ _ _ _ s => s) p⟩
          · exact p.elim
        · subst hbf
          exact p clsv dx ρ1 G1 H1 σ1 s1 er⟩
end
/-! ### e.f, e the error that is handled -/
def eXf (i : Nat) (f : Str) (g : Nat → Bool) : De := fun Γ S => match Γ[i]? with
  | some (.xcp x) => if g x.c = true then ofO ((x.ns.zip x.fs).lookup f) S else .stuck
  | _ => .stuck
theorem zip_lookup {C : Cn} {ρ : List Addr} {G : Hp} {f : Str} {d : D} : ∀ {ns : List Str} {ds : List D} {vs : List V}, Reps C ρ G ds vs → (ns.zip ds).lookup f = some d → ∃ v, (ns.zip vs).lookup f = some v ∧ Rep C ρ G d v
  | [], _, _, _, h => by cases h
  | n :: ns, [], _, _, h => by cases h
  | n :: ns, d0 :: ds, vs, r, h => by
    obtain ⟨v, us, rfl, h1, h2⟩ := r.inv
    rw [List.zip_cons_cons] at h ⊢
    by_cases e : f = n
    · subst e
      simp [List.lookup] at h
      subst h
      exact ⟨v, by simp [List.lookup], h1⟩
    · have e2 : (f == n) = false := by simpa using e
      simp only [List.lookup, e2] at h ⊢
      exact zip_lookup h2 h
section
variable {X : Cx} {cls cls' : Nat → Addr} {a : Addr} {oe : Obj} {pn : List (Addr × Obj)} {pos p p2 : Pos} {f y : Str} {g : Nat → Bool}
theorem de_xf (u : Su cls cls' a oe) (i : Nat) {x : Str} (hg : ∀ c, g c = true → XfC X.K (cls (c + 3)) ∧ PySem.W.findIn X.K (.ref (cls (c + 3))) f = some none) (he : PE (X.suite a ((a, oe) :: pn)) (.Name x p) (tVar i))
    (hb : attributeBase (.Name x p) f X.env (eval (.Name x p) X.env) = eval (.Name x p) X.env := by rfl) : DE (X.suite a ((a, oe) :: pn)) cls' W0 (.Attribute (.Name x p) f pos) (eXf i f g) := by
  refine ⟨fun pins s σ H Q I h => ?_⟩
  obtain ⟨Γ, S, ρ, G, m, q⟩ := h
  unfold eXf at q
  split at q
  · rename_i xn hx
    split at q
    · rename_i hgx
      obtain ⟨d, hd, q2⟩ := ofO_post q
      obtain ⟨e0, x1, x2, x3⟩ := m.xcp i xn hx
      have hcls : cls' 2 = cls (xn.c + 3) := x1.trans (u.up _)
      obtain ⟨T, hno⟩ := hg _ hgx
      have hfs : xn.fs ≠ [] := fun z => by rw [z] at hd; cases hn : xn.ns <;> rw [hn] at hd <;> cases hd
      obtain ⟨d1, vs, e1, gd, hl, r⟩ := x3 hfs
      obtain ⟨v, hv, rv⟩ := zip_lookup r hd
      have hz := u.z
      have e1' : cls' 1 = d1 + 1 := e1
      rw [e1'] at hz
      have a0 : cls' 0 = a := u.a0
      have e0' : σ[i]? = some (some (V.ref a)) := by rw [← a0]; exact e0
      exact (pe_xf (X := X) (C := cls (xn.c + 3)) (cls := .ref (cls' 2)) (d := some d1) T hno hz u.f he hb).run pins s σ H Q I ⟨_, e0', rfl, by rw [hcls], d1, _, v, rfl, m.sub.get gd (fun _ z => nomatch z), hv, q2.at m rv⟩
    · exact q.elim
  · exact q.elim
end
end DL

namespace DL
open PySem PySem.Spec PyProof.Rows L2
/-! ### isinstance(e, X), e the error that is handled -/
def eIsX (i : Nat) (f : Nat → Option Bool) : De := fun Γ S => match Γ[i]? with
  | some (.xcp x) => ofO ((f x.c).map .bl) S
  | _ => .stuck
section
variable {X : Cx} {cls cls' : Nat → Addr} {a CX : Addr} {oe : Obj} {pn : List (Addr × Obj)} {pos p p1 p2 : Pos} {x y : Str} {f : Nat → Option Bool}
def rIsX (K : PySem.W.Frag) (cls' : Nat → Addr) (a CX : Addr) : List V → Hp → VK → Prop := fun xs H Q => ∃ b, xs = [.ref a, .ref CX] ∧ ExcC K (cls' 2) ∧ (∀ d, cls' 1 = d + 1 → ∃ fs, H d = some (.xd fs)) ∧ PySem.W.kitOne K (.ref (cls' 2)) (.ref CX) = some b ∧ Q (.bl b) H
theorem call_isX (u : Su cls cls' a oe) : CallR (X.suite a ((a, oe) :: pn)) (.builtin "isinstance") (rIsX X.K cls' a CX) := by
  intro pins s σ H xs us Q I r h
  obtain ⟨b, rfl, C, hd, e, q⟩ := h
  cases r with
  | cons rx rr =>
    cases rr with
    | cons rt rr =>
      cases rr
      cases rx
      cases rt
      obtain ⟨hget, _⟩ := I.pin (a, oe) (List.mem_append.mpr (.inl List.mem_cons_self))
      obtain ⟨vs, hv⟩ := u.f
      have hz := u.z
      obtain ⟨cd, hcd, _⟩ := PySem.W.any_some C.hd
      have fin : ∀ od, PySem.W.InstAt s.heap a oe (cls' 2) od → wpAny (model X.prog X.w) X.A.in1 (pure ()) (fun _ _ => True) (fun _ _ => True) s → wpAny (model (X.suite a ((a, oe) :: pn)).prog (X.suite a ((a, oe) :: pn)).w) (X.suite a ((a, oe) :: pn)).A (call (.builtin "isinstance") [.ref a, .ref CX]) (EP (X.suite a ((a, oe) :: pn)) pins σ Q) (X.suite a ((a, oe) :: pn)).xe s := fun od J _ =>
        PySem.W.kia_one (PySem.W.kitx_exc (by rw [hcd]; rfl) C.hg C.hk C.hs C.ha C.hn C.ht C.hm) I.kIn J e (fun z => nomatch z) fun tk => ⟨.bl b, H, I.kept (t' := tk) fun _ _ z => z, rfl, q⟩
      cases h1 : cls' 1 with
      | zero =>
        rw [h1] at hz
        refine fin none ?_ (wpAny_pure trivial)
        exact ⟨hget, hz.1, by unfold PySem.W.notCls; rw [hv] <;> rfl, by rw [hz.2]; trivial⟩
      | succ d =>
        rw [h1] at hz
        obtain ⟨fs, hfs⟩ := hd d h1
        have hx : ObjOk X.prog X.w H s.heap d (.xd fs) := I.hok d _ hfs
        obtain ⟨mA, hns, hr⟩ := hx
        obtain ⟨od, ho, hl⟩ := lookIn_ns hns
        refine fin (some od) ?_ (wpAny_pure trivial)
        exact ⟨hget, hz.1, by unfold PySem.W.notCls; rw [hv] <;> rfl, by rw [hz.2]; exact ho⟩
theorem de_isx (u : Su cls cls' a oe) (i : Nat) (hg : Gl X "isinstance") (hm : X.mg "isinstance" = none) (hgC : Gl X y) (hmC : X.mg y = some (.ref CX)) (hf : ∀ c b, f c = some b → ExcC X.K (cls (c + 3)) ∧ PySem.W.kitOne X.K (.ref (cls (c + 3))) (.ref CX) = some b)
    (hx : PE (X.suite a ((a, oe) :: pn)) (.Name x p1) (tVar i)) (hdb : (y == ("__debug__" : Str)) = false := by decide)
    (he : starEach [.Name x p1, .Name y p2] (X.suite a ((a, oe) :: pn)).env = (false, eval (.Name x p1) (X.suite a ((a, oe) :: pn)).env) :: starEach [.Name y p2] (X.suite a ((a, oe) :: pn)).env := by rfl) (he2 : starEach [.Name y p2] (X.suite a ((a, oe) :: pn)).env = (false, eval (.Name y p2) (X.suite a ((a, oe) :: pn)).env) :: starEach [] (X.suite a ((a, oe) :: pn)).env := by rfl)
    (hpl : (backTo pos (starEach [.Name y p2] (X.suite a ((a, oe) :: pn)).env)).any (·.1) = false := by rfl) :
    DE (X.suite a ((a, oe) :: pn)) cls' W0 (.Call (.Name "isinstance" p) [.Name x p1, .Name y p2] [] pos) (eIsX i f) :=
  PE.weak (pe_callB (X := X.suite a ((a, oe) :: pn)) (call_isX (X := X) (CX := CX) u) hg hm (by decide +kernel) (pa_cons hx (pa_cons (pe_glob (X := X.suite a ((a, oe) :: pn)) (v := .ref CX) hgC hmC rfl hdb) pa_nil he2) he) (by decide) (by decide) he hpl) fun σ H Q ⟨Γ, S, ρ, G, m, q⟩ => by
    unfold eIsX at q
    split at q
    · rename_i xn hxn
      obtain ⟨d, hd, q2⟩ := ofO_post q
      obtain ⟨e0, x1, x2, x3⟩ := m.xcp i xn hxn
      have hcls : cls' 2 = cls (xn.c + 3) := x1.trans (u.up _)
      cases hfc : f xn.c with
      | none => rw [hfc] at hd; cases hd
      | some b =>
        rw [hfc] at hd; cases hd
        obtain ⟨C, k⟩ := hf _ _ hfc
        have a0 : cls' 0 = a := u.a0
        have e0' : σ[i]? = some (some (V.ref a)) := by rw [← a0]; exact e0
        refine ⟨_, e0', b, rfl, by rw [hcls]; exact C, fun d hd => ?_, by rw [hcls]; exact k, q2.at m (rep_bl.mpr rfl)⟩
        by_cases z : xn.fs = []
        · have y1 : cls' 1 = 0 := x2 z
          rw [y1] at hd; cases hd
        · obtain ⟨d1, vs, e1, gd, _, _⟩ := x3 z
          have y1 : cls' 1 = d1 + 1 := e1
          rw [y1] at hd; cases hd
          exact ⟨_, m.sub.get gd (fun _ z => nomatch z)⟩
    · exact q.elim
end
end DL

namespace DL
open PySem PySem.Spec PyProof.Rows L2
/-! ### dict comprehensions -/
def dcompD (p : Pat) (τ : Dt) (κ ε : De) : List D → List Sl → List D → List Key × List D → Res (List Key × List D)
  | [], _, S, acc => .ok acc S
  | x :: xs, Γ, S, acc => match p.bind x Γ with
    | none => .stuck
    | some Γ1 => (nox (τ Γ1 S)).bind fun k S1 => if k then (nox (κ Γ1 S1)).bind fun y S2 => (nox (ε Γ1 S2)).bind fun z S3 => match keyD y with
        | some q => if acc.2.length < sizeLine then dcompD p τ κ ε xs Γ S3 (dPut acc.1 acc.2 q z) else .stuck
        | none => .stuck
      else dcompD p τ κ ε xs Γ S1 acc
def eDComp (ι : Da) (p : Pat) (vs : List Nat) (τ : Dt) (κ ε : De) : De := fun Γ S => (ι Γ S).bind fun xs S1 => (dcompD p τ κ ε xs (wipeD Γ vs) S1 ([], [])).bind fun a S2 => .ok (.dct a.1 a.2) S2
section
variable {X : Cx} {cls : Nat → Addr} {W : WX}
theorem x_dcomp {ι : Da} {p : Pat} {τ : Dt} {κ ε : De} {vs : List Nat} (hv : ∀ i ∈ p.vars, i ∈ vs) {σ : L2.St} {H : Hp} {Q : VK} (h : tE ⟨X.K, cls⟩ W (RF ⟨X.K, cls⟩) (eDComp ι p vs τ κ ε) σ H Q) :
    tDc (tI ⟨X.K, cls⟩ W ι) (p.g X.K) (tT ⟨X.K, cls⟩ W0 τ) (tE ⟨X.K, cls⟩ W0 (RS ⟨X.K, cls⟩) κ) (tE ⟨X.K, cls⟩ W0 (RS ⟨X.K, cls⟩) ε) vs σ H Q := by
  obtain ⟨Γ, S, ρ, G, m, q⟩ := h
  refine ⟨Γ, S, ρ, G, m, ?_⟩
  unfold eDComp at q
  cases z : ι Γ S with
  | exc x S1 => rw [z] at q; exact q
  | stuck => rw [z] at q; exact q
  | ok xs S1 =>
    rw [z] at q
    simp only [Res.bind_ok] at q
    intro J ρ1 G1 H1 m1 n1 sk D0 hD
    have hown : ∀ (i : Nat) (d : D) (b : Addr), Γ[i]? = some (Sl.own d) → σ[i]? = some (some (V.ref b)) → b ≠ D0 := fun i d b h1 h2 e => by
      obtain ⟨b', e', r', _⟩ := m1.own i d h1
      rw [h2] at e'; cases e'
      obtain ⟨o, ho⟩ := r'.some
      rw [e, hD] at ho; cases ho
    have gD : G1 D0 = none := by
      cases e : G1 D0 with
      | none => rfl
      | some o => obtain ⟨_, z⟩ := m1.sub.has e; rw [z] at hD; cases hD
    have pD : D0 ∉ ρ1 := fun e => by
      obtain ⟨i, hi⟩ := List.mem_iff_getElem?.mp e
      have hi2 : i < S1.length := by rw [← m1.len]; exact (List.getElem?_eq_some_iff.mp hi).1
      obtain ⟨a, ha, r⟩ := m1.sto i S1[i] (List.getElem?_eq_getElem hi2)
      rw [hi] at ha; cases ha
      obtain ⟨o, ho⟩ := r.some
      rw [ho] at hD; cases hD
    let Pv : Nat → Hp → Prop := fun i H => ∃ S ρ G us, ∃ acc : List Key × List D, Mem ⟨X.K, cls⟩ Γ S ρ G H σ ∧ H D0 = some (.dK (acc.1.zip us)) ∧ acc.1.length = acc.2.length ∧ Reps ⟨X.K, cls⟩ ρ G acc.2 us ∧ D0 ∉ ρ ∧ G D0 = none ∧ Nx ρ1 G1 H1 ρ G H ∧
      dcompD p τ κ ε xs (wipeD Γ vs) S1 ([], []) = dcompD p τ κ ε (xs.drop i) (wipeD Γ vs) S acc
    refine ⟨fun i mm H => mm = xs.length - i ∧ i ≤ xs.length ∧ Pv i H, ⟨xs.length, by omega, Nat.zero_le _, S1, ρ1, G1, [], ([], []), m1.aside gD (noTE_of hD) pD hown, upd_same, rfl, .nil, pD, gD, Nx.refl.aside hD, ?_⟩, fun i mm H ⟨hm, hi, S, ρ, G, us, acc, ms, hacc, hlen, racc, pD', gD', nn, eqn⟩ => ?_⟩
    · rw [List.drop_zero]
    · have sub1 : Sub G1 G := nn.ext
      by_cases hlt : i < xs.length
      · rw [List.drop_eq_getElem_cons hlt, dcompD] at eqn
        refine .inr ⟨sk.go S ρ G H i ms.toS sub1 nn.pre (old_of m1 nn) hlt, Pv (i + 1), fun H' n => ⟨xs.length - (i + 1), by omega, rfl, hlt, n⟩, fun x H' y => ?_⟩
        obtain ⟨G', m', n', r'⟩ := sk.yld S ρ G H i x H' _ ms.toS sub1 nn.pre (old_of m1 nn) (List.getElem?_eq_getElem hlt) y
        have mH' := ms.step n' m'
        have mw := mH'.wipe vs
        cases hbd : p.bind xs[i] (wipeD Γ vs) with
        | none => rw [hbd] at eqn; rw [eqn] at q; exact q.elim
        | some Γ1 =>
          rw [hbd] at eqn
          simp only at eqn
          refine Pat.ok (C := ⟨X.K, cls⟩) p xs[i] x (wipeD Γ vs) Γ1 (L2.wipe σ vs) mw r' hbd _ fun σ2 m2 _ kp => ⟨?_, Γ1, S, ρ, G', m2, ?_⟩
          · rw [wipe_eq kp.1 fun j hj => kp.2 j fun h => hj (hv j h), wipe_eq (L2.wipe_length σ vs) fun j hj => wipe_out2 hj]
          · cases zt : τ Γ1 S with
            | exc x2 S2 => rw [zt] at eqn; rw [eqn] at q; exact q.elim
            | stuck => rw [zt] at eqn; rw [eqn] at q; exact q.elim
            | ok k S2 =>
              rw [zt] at eqn
              simp only [nox_ok, Res.bind_ok] at eqn
              intro kv ρ2 G2 H2 mm2 nn2 rk
              have ek : k = kv := rk
              subst ek
              have nnH : Nx ρ G H ρ2 G2 H2 := n'.trans nn2
              have mg2 : Mem ⟨X.K, cls⟩ Γ S2 ρ2 G2 H2 σ := ms.step nnH mm2.toS
              have outρ : ∀ {ρ5 : List Addr} {G5 H5 : Hp}, Nx ρ G H ρ5 G5 H5 → D0 ∉ ρ5 := fun {ρ5 G5 H5} nn z => by
                rcases nn.fre _ z with z | z
                · exact pD' z
                · rw [hacc] at z; cases z
              have outG : ∀ {ρ5 : List Addr} {G5 H5 : Hp}, Nx ρ G H ρ5 G5 H5 → G5 D0 = none := fun {ρ5 G5 H5} nn => by
                cases e : G5 D0 with
                | none => rfl
                | some o => rcases nn.new _ _ e with z | z
                            · rw [gD'] at z; cases z
                            · rw [hacc] at z; cases z
              cases k with
              | false =>
                simp only [Bool.false_eq_true, if_false] at eqn
                exact iteF ⟨S2, ρ2, G2, us, acc, mg2, nnH.keep _ _ (fun _ z => nomatch z) hacc pD', hlen, Reps.mono nnH.ext nnH.pre _ _ racc, outρ nnH, outG nnH, nn.trans nnH, eqn⟩
              | true =>
                simp only [if_true] at eqn
                refine iteT ⟨Γ1, S2, ρ2, G2, mm2, ?_⟩
                cases zk : κ Γ1 S2 with
                | exc x3 S3 => rw [zk] at eqn; rw [eqn] at q; exact q.elim
                | stuck => rw [zk] at eqn; rw [eqn] at q; exact q.elim
                | ok dk S3 =>
                  rw [zk] at eqn
                  simp only [nox_ok, Res.bind_ok] at eqn
                  intro kv3 ρ3 G3 H3 mm3 nn3 rk3
                  refine ⟨Γ1, S3, ρ3, G3, mm3, ?_⟩
                  cases ze : ε Γ1 S3 with
                  | exc x3 S4 => rw [ze] at eqn; rw [eqn] at q; exact q.elim
                  | stuck => rw [ze] at eqn; rw [eqn] at q; exact q.elim
                  | ok d S4 =>
                    rw [ze] at eqn
                    simp only [nox_ok, Res.bind_ok] at eqn
                    intro dv ρ4 G4 H4 mm4 nn4 rd
                    have nn5 : Nx ρ G H ρ4 G4 H4 := (nnH.trans nn3).trans nn4
                    have hacc4 := nn5.keep _ (HO.dK _) (fun _ z => nomatch z) hacc pD'
                    have mg4 : Mem ⟨X.K, cls⟩ Γ S4 ρ4 G4 H4 σ := ms.step nn5 mm4.toS
                    have racc4 := Reps.mono nn5.ext nn5.pre _ _ racc
                    cases hq : keyD dk with
                    | none => rw [hq] at eqn; rw [eqn] at q; exact q.elim
                    | some qk =>
                      rw [hq] at eqn
                      simp only at eqn
                      split at eqn
                      · rename_i hsz
                        obtain ⟨us2, e1, e2, e3⟩ := put_zip rd racc4 hlen qk
                        refine ⟨_, qk, keyD_v hq (rk3.mono nn4.ext nn4.pre), hacc4, ?_, S4, ρ4, G4, us2, dPut acc.1 acc.2 qk d, mg4.aside (outG nn5) (noTE_dK hacc4) (outρ nn5) hown, by rw [upd_same, e1], e2, e3, outρ nn5, outG nn5, (nn.trans nn5).aside hD, eqn⟩
                        rw [List.length_zip, hlen, racc4.length, Nat.min_self, ← racc4.length]; exact hsz
                      · rw [eqn] at q; exact q.elim
      · have e : i = xs.length := by omega
        subst e
        refine .inl ⟨sk.stop S ρ G H ms.toS sub1 nn.pre (old_of m1 nn), ?_⟩
        rw [List.drop_length, dcompD] at eqn
        rw [eqn] at q
        simp only [Res.bind_ok] at q
        exact q _ ρ G H ms (n1.trans nn) ⟨D0, rfl, pD', n1.live _ hD, gD', us, hacc, hlen, racc⟩
theorem df_dcomp {kx vx tg iter : Expr} {ifs : List Expr} {scope : Scope} {own : List (Str × Nat)} {pos : Pos} {ι : Da} {p : Pat} {τ : Dt} {κ ε : De} (hc : X.calm = true) (hN : X.N.Nodup) (hi : DI X cls W tg iter ι) (ok : BlkOk X.N X.env.scope scope own) (hv : ∀ i ∈ p.vars, i ∈ own.map (·.2))
    (hg : ∀ (s : Shared) (H : Hp) (C : Addr) (cl : List (Str × Addr)) (fp : List Addr), PG (X.blk s H scope (compEnvC scope cl C X.env) fp) tg (p.g X.K)) (ht : ∀ (s : Shared) (H : Hp) (C : Addr) (cl : List (Str × Addr)) (fp : List Addr), DTs (X.blk s H scope (compEnvC scope cl C X.env) fp) cls ifs τ)
    (hk : ∀ (s : Shared) (H : Hp) (C : Addr) (cl : List (Str × Addr)) (fp : List Addr), DE (X.blk s H scope (compEnvC scope cl C X.env) fp) cls W0 kx κ)
    (he : ∀ (s : Shared) (H : Hp) (C : Addr) (cl : List (Str × Addr)) (fp : List Addr), DE (X.blk s H scope (compEnvC scope cl C X.env) fp) cls W0 vx ε) (hs : ∀ x, foldedSetIterable iter X.env x = pure x := by intro _; rfl) :
    DF X cls W (.DictComp kx vx [⟨tg, iter, ifs, 0⟩] scope pos) (eDComp ι p (own.map (·.2)) τ κ ε) :=
  PE.weak (pe_dc (tt := tT ⟨X.K, cls⟩ W0 τ) (tk := tE ⟨X.K, cls⟩ W0 (RS ⟨X.K, cls⟩) κ) (tv := tE ⟨X.K, cls⟩ W0 (RS ⟨X.K, cls⟩) ε) hc hN hi ok hg ht hk he hs) fun σ H Q h => x_dcomp hv h
end
end DL

namespace DL
open PySem PySem.Spec PyProof.Rows L2
theorem RoomG.u1 {k : Nat} {A : Around} (r : RoomG k A) : A.units + 1 < cLine := by have := r.units; omega
theorem errBody {prog : Program} {K : PySem.W.Frag} {qual : Str} {st : Stmt} {C D fI cc cda : Addr} {par fld : Str} (tx : ErrSt st par fld)
    {nm q : Str} {N : Addr} {bs bm : List Value} {sn : List Str} {sub : List Value} {ab : Bool} {col : Option Bool} {dd : Option Addr} {k0 k1 k2 k3 k5 : Option Value}
    (cls : K.lookup C = some (excClassObj nm q C N bs bm true sn sub ab col dd k0 k1 k2 k3 k5 "ValueError.__new__")) (rv : PySem.HandSPX.refsVE bm = true)
    (sa : PySem.W.findIn K (.ref C) "__setattr__" = some (some (.builtin "object.__setattr__"))) (noN : PySem.W.findIn K (.ref C) fld = some none) (iC : PySem.W.findIn K (.ref C) "__init__" = some (some (.ref fI))) (tC : PySem.W.typeIn K (.ref fI) = some (.type "function"))
    (kC : PySem.W.keepIn K (.ref C) = true) (exC : PySem.W.subIn K (.ref C) (.type "BaseException") = some true) (veC : PySem.W.subIn K (.ref C) (.type "ValueError") = some true) (tyC : PySem.W.typeIn K (.ref C) = some (.type "type"))
    (sup : PySem.W.ks_superIn K C D "__init__" = some (some (.builtin "ValueError.__init__"))) (mCD : PySem.W.mroIn K C (.ref D) = some true) (clD : PySem.W.isClsIn K D = true)
    {cl : Value} {cld : Option Addr} {csl : Array (Option Value)} (cell : K.lookup cc = some ⟨cl, cld, .cell (some (.ref D)), csl⟩)
    {ccl : Value} {cdd : Option Addr} {vs : Array Value} {ccs : Array (Option Value)} {file : Str} {tf : Tok} (code : K.lookup cda = some ⟨ccl, cdd, .fields vs, ccs⟩) (v2 : vs[2]? = some (.str file tf)) (hfile : ((prog.main.file : Str) == file) = true)
    (thp : PySem.W.nsIn K cStatics "thirdparty.any" = some none) (top : (prog.main.scope.names.lookup ("super" : Str)).isSome = false)
    {oc : Value} {od : Option Addr} {kV doc pm : Value} {an : Option Addr} {ct : Value} {osl : Array (Option Value)}
    (fn : K.lookup fI = some ⟨oc, od, .func (PySem.W.ksFn "__init__" qual (defArgs st) (defBody st) (defScope st) .none kV doc pm an (.ref cda) ct cc), osl⟩) (cod : PySem.W.codeIn K (.ref cda) qual = true)
    (bd : ∀ (s : Shared) (u v : Value), BindsTo s (PySem.W.ksFn "__init__" qual (defArgs st) (defBody st) (defScope st) .none kV doc pm an (.ref cda) ct cc) ⟨[u, v], []⟩ [("self", u), (par, v)]) :
    ErrTxt prog K qual st C D fI cc cda par fld :=
  ⟨tx, ⟨nm, q, N, bs, bm, sn, sub, ab, col, dd, k0, k1, k2, k3, k5, cls, rv⟩, sa, noN, iC, tC, kC, exC, veC, tyC, sup, mCD, Option.isSome_iff_exists.mp clD, ⟨cl, cld, csl, cell⟩, ⟨ccl, cdd, vs, ccs, file, tf, code, v2, hfile⟩, thp, top, ⟨oc, od, kV, doc, pm, an, ct, osl, fn, cod, bd⟩⟩
end DL

namespace DL
open PySem PySem.Spec PyProof.Rows L2
section
variable {C : Cn} {X : Cx} {cls : Nat → Addr} {W : WX} {a b c e : Expr} {δa δb δc : De} {pos p apos cpos : Pos}
/-! ### a ≤ b < c -/
theorem de_chain2 (ha : DO X cls W a δa) (hb : DO X cls W b δb) (hc : DO X cls W c δc) (hm : lastMarks [.LtE, .Lt] [b, c] = false := by with_unfolding_all rfl) : DE X cls W (.Compare a [.LtE, .Lt] [b, c] pos) (eChain oLe oLt δa δb δc) :=
  PE.weak (pe_chain or_le or_lt ha hb hc hm) fun _ _ _ h => x_chain ok_ord ok_ord h
theorem dt_chain2 (ha : DO X cls W a δa) (hb : DO X cls W b δb) (hc : DO X cls W c δc) (hm : lastMarks [.LtE, .Lt] [b, c] = false := by with_unfolding_all rfl) : DT X cls W (.Compare a [.LtE, .Lt] [b, c] pos) (tB (eChain oLe oLt δa δb δc)) :=
  PT.weak (pt_chain or_le or_lt ha hb hc hm) fun σ H Q ⟨Γ, S, ρ, G, m, p⟩ => by
    refine x_chain (W := W) (cls := cls) ok_ord ok_ord ⟨Γ, S, ρ, G, m, (Post.seq back_RB p).mono fun v H1 ⟨d, S1, ρ1, G1, m1, n1, r1, p1⟩ => ?_⟩
    obtain ⟨k, hk, p2⟩ := ofO_post p1
    cases d <;> try cases hk
    exact ⟨k, rep_bl.mp r1, p2.at m1 rfl⟩
/-! ### dict(pairs) -/
def pairsD : List D → Option (List (Key × D))
  | [] => some []
  | .tup [k, x] :: r => (keyD k).bind fun q => (pairsD r).map fun l => (q, x) :: l
  | _ => none
def mergeD (acc : List Key × List D) : List (Key × D) → List Key × List D
  | [] => acc
  | kx :: r => mergeD (dPut acc.1 acc.2 kx.1 kx.2) r
def dDict : D → Option D
  | .lst xs => (pairsD xs).map fun l => .dct (mergeD ([], []) l).1 (mergeD ([], []) l).2
  | _ => none
theorem pairs_rep {ρ : List Addr} {G H : Hp} (s : SubH C G H) : ∀ {xs : List D} {vs : List V} {l : List (Key × D)}, Reps C ρ G xs vs → pairsD xs = some l →
    ∃ (ps : List Addr) (us : List V), vs = ps.map V.ref ∧ Paired (fun p (kv : Key × V) => SqT C.K H p [kV kv.1, kv.2]) ps ((l.map Prod.fst).zip us) ∧ Reps C ρ G (l.map Prod.snd) us
  | [], _, l, h, e => by
    rw [pairsD] at e; cases e
    rw [h.inv0]
    exact ⟨[], [], rfl, Paired.nil, Reps.nil⟩
  | x :: r, _, l, h, e => by
    obtain ⟨v, vs, rfl, h1, h2⟩ := h.inv
    unfold pairsD at e
    split at e
    · cases ‹_ = []›
    · rename_i k y r' hr
      cases hr
      cases q : keyD k with
      | none => rw [q] at e; cases e
      | some kk =>
        rw [q] at e
        cases q2 : pairsD r with
        | none => rw [Option.bind_some, q2] at e; cases e
        | some l' =>
          rw [Option.bind_some, q2] at e; cases e
          obtain ⟨ps, us, rfl, pr, rr⟩ := pairs_rep s h2 q2
          obtain ⟨a, ws, rfl, t, rw'⟩ := rep_tup.mp h1
          obtain ⟨w1, ws1, rfl, g1, g2⟩ := rw'.inv
          obtain ⟨w2, ws2, rfl, g3, g4⟩ := g2.inv
          have := g4.inv0
          subst this
          have ek := keyD_v q g1
          subst ek
          exact ⟨a :: ps, w2 :: us, rfl, .cons (s.sqT t) pr, .cons g3 rr⟩
    · cases e
theorem merge_rep {ρ : List Addr} {G : Hp} : ∀ {l : List (Key × D)} {us : List V} {ks : List Key} {xs : List D} {vs : List V}, Reps C ρ G (l.map Prod.snd) us → ks.length = xs.length → Reps C ρ G xs vs →
    ∃ ws, mergeK (ks.zip vs) ((l.map Prod.fst).zip us) = (mergeD (ks, xs) l).1.zip ws ∧ (mergeD (ks, xs) l).1.length = (mergeD (ks, xs) l).2.length ∧ Reps C ρ G (mergeD (ks, xs) l).2 ws
  | [], us, ks, xs, vs, h, hl, r => ⟨vs, rfl, hl, r⟩
  | (k, x) :: l, us, ks, xs, vs, h, hl, r => by
    obtain ⟨u, us', rfl, h1, h2⟩ := Reps.inv (show Reps C ρ G (x :: l.map Prod.snd) us from h)
    obtain ⟨ws, e1, e2, e3⟩ := put_zip h1 r hl k
    obtain ⟨ws2, e4, e5, e6⟩ := merge_rep (l := l) (us := us') (ks := (dPut ks xs k x).1) (xs := (dPut ks xs k x).2) h2 e2 e3
    refine ⟨ws2, ?_, e5, e6⟩
    rw [← e1] at e4
    exact e4
theorem rc_dict : RC1 C (RF C) (fun xs H Q => ∃ (a : Addr) (ps : List Addr) (kvs : List (Key × V)), xs = [.ref a] ∧ SqL C.K H a (ps.map V.ref) ∧ Paired (fun p kv => SqT C.K H p [kV kv.1, kv.2]) ps kvs ∧
    ∀ p, H p = none → Q (.ref p) (upd H p (.dK (mergeK [] kvs)))) dDict := fun S ρ G H x d dx Q m rx e q => by
  cases dx <;> try cases e
  rename_i xs
  obtain ⟨a, vs, rfl, h1, r1⟩ := rx
  simp only [dDict] at e
  cases k : pairsD xs with
  | none => rw [k] at e; cases e
  | some l =>
    rw [k] at e; cases e
    obtain ⟨ps, us, rfl, pr, rr⟩ := pairs_rep m.sub r1 k
    obtain ⟨ws, e1, e2, e3⟩ := merge_rep (C := C) (ks := []) (xs := []) rr rfl Reps.nil
    refine ⟨a, ps, _, rfl, SqL.of h1, pr, fun p hp => ?_⟩
    obtain ⟨m', n', np, gp⟩ := m.new (o := .dK (mergeK [] ((l.map Prod.fst).zip us))) hp
    refine q (.ref p) ρ G _ m' n' ⟨p, rfl, np, hp, gp, ws, ?_, e2, e3⟩
    rw [upd_same]
    have e1 : mergeK [] ((l.map Prod.fst).zip us) = (mergeD ([], []) l).1.zip ws := e1
    rw [e1]
theorem df_dict (hg : Gl X "dict") (hm : X.mg "dict" = none) (hc : X.calm = true) (ha : DO X cls W a δa) (he : starEach [a] X.env = (false, eval a X.env) :: starEach [] X.env := by rfl) (hpl : (backTo pos (starEach [] X.env)).any (·.1) = false := by rfl) : DF X cls W (.Call (.Name "dict" p) [a] [] pos) (eUn dDict δa) :=
  x_c1 back_RF (pe_callTy (call_dictP hc) hg hm (by decide +kernel) (da1 ha he) (by decide) (by decide) he hpl) rc_dict
/-! ### d.get(k) -/
def dGet1 (d k : D) : Option D := match d, keyD k with
  | .dct ks xs, some q => some ((dGet ks xs q).getD .non)
  | _, _ => none
def eGet1 (a b : De) : De := fun Γ S => (a Γ S).bind fun x S1 => if isDct (deref S1 x) = true then (b Γ S1).bind fun y S2 => ofO (dGet1 (deref S2 x) y) S2 else .stuck
theorem de_dget1 (hu : X.A.units + 1 < cLine) (ha : DO X cls W a δa) (hb : DE X cls W b δb) (m : M1 X a "get" apos b cpos) : DE X cls W (.Call (.Attribute a "get" apos) [b] [] cpos) (eGet1 δa δb) :=
  PE.weak (pe_dget1 hu ha hb m) fun σ H Q ⟨Γ, S, ρ, G, m, p⟩ => by
    refine ⟨Γ, S, ρ, G, m, (Post.seq back_RS p).mono fun x H1 ⟨dx, S1, ρ1, G1, m1, n1, r1, p1⟩ => ?_⟩
    split at p1
    · rename_i hd
      obtain ⟨ad, rfl, isd⟩ := isDct_rt hd (m1.read r1)
      refine ⟨ad, rfl, isd, Γ, S1, ρ1, G1, m1, (Post.seq back_RS p1).mono fun y H2 ⟨dy, S2, ρ2, G2, m2, n2, r2, p2⟩ => ?_⟩
      obtain ⟨d, hd3, p4⟩ := ofO_post p2
      have rt3 := m2.read (RO.step (H1 := H2) n2 r1)
      unfold dGet1 at hd3
      split at hd3
      · rename_i ks xs q e1 e2
        rw [e1] at rt3
        obtain ⟨a3, vs, e3, h3, hl, rr⟩ := rt3
        cases e3
        obtain ⟨o, g, k⟩ := dget_rt h3 hl rr q
        have ey := keyD_v e2 r2
        subst ey
        refine ⟨o, g, ?_⟩
        cases z2 : dGet ks xs q with
        | some d2 =>
          rw [z2] at k hd3
          obtain ⟨v, rfl, rv⟩ := k
          cases hd3
          exact p4.at m2 rv
        | none =>
          rw [z2] at k hd3
          subst k
          cases hd3
          exact p4.at m2 (rep_non.mpr rfl)
      · cases hd3
    · exact p1.elim
end
/-! ### defs that run while an error is handled, and raise nothing -/
structure RoomX (k : Nat) (A : Around) : Prop where
  dp : A.depth + 3 * k + 5 < recursionLimit
  un : A.units + 16 * k + 200 < cLine
  gd : A.guards = some []
theorem RoomX.units {k : Nat} {A : Around} (r : RoomX k A) : A.units + 64 < cLine := by have := r.un; omega
theorem RoomX.u1 {k : Nat} {A : Around} (r : RoomX k A) : A.units + 1 < cLine := by have := r.un; omega
theorem RoomX.deeper {k : Nat} {A : Around} (r : RoomX (k + 1) A) (env : Env) : RoomX k (A.deeper env) :=
  ⟨by have := r.dp; show A.depth + 1 + 3 * k + 5 < _; omega, by have := r.un; show A.units + 3 + 16 * k + 200 < _; omega, r.gd⟩
theorem RoomX.less {j k : Nat} {A : Around} (r : RoomX k A) (h : j ≤ k) : RoomX j A := ⟨by have := r.dp; omega, by have := r.un; omega, r.gd⟩
theorem RoomG.x {k : Nat} {A : Around} (r : RoomG k A) : RoomX k A := ⟨r.dp, r.un, r.gd⟩
theorem RoomG.xm {k : Nat} {A : Around} (r : RoomG k A) (o : Option Value) : RoomX k (A.mark o) := ⟨r.dp, r.un, r.gd⟩
theorem RoomX.x {k : Nat} {A : Around} (r : RoomX k A) : RoomX k A := r
structure FnX (P : Program) (w : World) (K : PySem.W.Frag) (mg : Str → Option Value) (base : Heap) (k : Nat) (f : Addr) (fd : FuncData) (ps : List Str) (sp : Sp) : Prop where
  lng : ∀ vs H Q E, sp vs H Q E → vs.length = ps.length
  goes : ∀ (A : Around) (o : List Env) (s : Shared) (H : Hp) (ar : Args) (us : List Value) (vs : List V) (Q : VK) (E : XK), RoomX k A → Env0 P w K mg base A o s H → BindsTo s fd ar (ps.zip us) → Vals vs us → sp vs H Q E →
    codeAny (model P w) A (.call (.ref f) ar) (CR (L2.CX P w) o P w H s Q E) s
/-- the context of such a def's body -/
def cxX (CX : CXT) (P : Program) (w : World) (K : PySem.W.Frag) (mg : Str → Option Value) (base : Heap) (N : List Str) (qual : Str) (scope : Scope) (f : Addr) (cd : Value) (A : Around) (outer : List Env) (s : Shared) (H : Hp) (E : XK) : Cx :=
  { cxOf CX P w K mg base N qual scope f cd A outer s H E with calm := false }
section
variable {P : Program} {w : World} {K : PySem.W.Frag} {mg : Str → Option Value} {base : Heap} {cls : Nat → Addr}
theorem fnX_stuck {k : Nat} {f : Addr} {fd : FuncData} {ps : List Str} {C : Cn} {F : List D → List D → Res D} (h : ∀ ds S, F ds S = .stuck) : FnX P w K mg base k f fd ps (spD C ps.length F) := by
  have no : ∀ vs H Q E, ¬ spD C ps.length F vs H Q E := fun vs H Q E h' => by
    obtain ⟨S, ρ, G, ds, _, _, _, z⟩ := h'
    rw [h] at z; exact z
  exact ⟨fun vs H Q E h => absurd h (no vs H Q E), fun A o s H ar us vs Q E _ _ _ _ h => absurd h (no vs H Q E)⟩
theorem start_x {CX : CXT} {N ps : List Str} {qual : Str} {scope : Scope} {f : Addr} {cd : Value} {A : Around} {outer : List Env} {s s1 : Shared} {H : Hp} {E : XK} {us : List Value} {vs : List V}
    (S : FnScope N ps scope) (e0 : Env0 P w K mg base A outer s H) (hl : vs.length = ps.length) (r : Vals vs us)
    (x : InCallC s s.heap.objs.size (bindL (envOfC qual scope s.heap.objs.size f cd).kindOf (ps.zip us) fun _ => none) (cellsFrom (s.heap.objs.size + 1) scope.names []) (bindC (envOfC qual scope s.heap.objs.size f cd).kindOf (ps.zip us) fun _ => none) s1) :
    Inv (cxX CX P w K mg base N qual scope f cd A outer s H E) [] (L2.start N vs) H s1 := by
  have e1 : Env0 P w K mg base { A with handled := none } outer s H := ⟨e0.frames, e0.mod, e0.bs, e0.bsz, e0.funs, e0.frf, e0.hok, e0.bare⟩
  have J := inv_start (CX := CX) (E := E) S (A := { A with handled := none }) rfl e1 hl r x
  exact ⟨⟨J.ok.mod, J.ok.kind, J.ok.glob, J.ok.blt, J.ok.above, J.ok.inj, J.ok.has, J.ok.cab, (fun z => Bool.noConfusion (show false = true from z)), J.ok.frames, J.ok.stk, J.ok.exf, J.ok.bs, J.ok.bsz, J.ok.noex, J.ok.exfs, J.ok.funs, J.ok.frf⟩,
    J.os, J.bare, J.base, J.loc, J.cell, J.free, J.freeC, J.pin, J.hok, J.len⟩
theorem defX_ok {x qual : Str} {st : Stmt} {f : Addr} {fd : FuncData} {N ps : List Str} {k : Nat} {δ : Ds} (F : Fun K x qual st f fd) (Sc : FnScope N ps (defScope st))
    (hbody : ∀ (cdv : Value) (A : Around) (outer : List Env) (s : Shared) (H : Hp) (E : XK), RoomX k (A.deeper (envOfC qual (defScope st) s.heap.objs.size f cdv)) →
      DSs (cxX (L2.CX P w) P w K mg base N qual (defScope st) f cdv A outer s H E) cls (fun c d _ H => E c d H) (defBody st) δ) : FnX P w K mg base (k + 1) f fd ps (spD ⟨K, cls⟩ ps.length (bodyRun N.length δ)) := by
  obtain ⟨oc, od, kV, doc, pm, an, cdv, ct, osl, rfl, lk, hcd⟩ := F.ex
  have ln : ∀ vs H Q E, spD ⟨K, cls⟩ ps.length (bodyRun N.length δ) vs H Q E → vs.length = ps.length := fun vs H Q E h => by obtain ⟨_, _, _, _, _, _, h, _⟩ := h; exact h
  refine ⟨ln, fun A o s0 H ar us vs Q E rm e0 bd rv h => ?_⟩
  have hl := ln _ _ _ _ h
  have KX : K.In s0.heap := e0.mod.kin.keeps fun b o e => (e0.bs b o e).1
  have lim : s0.heap.NoLimit := e0.mod.nolimit.keeps fun b o e => (e0.bs b o e).1
  have hkind : ∀ y ∈ ps.zip us, (defScope st).names.lookup y.1 = some .local ∨ ((defScope st).names.lookup y.1 = some .cell ∧ ((cellsFrom (s0.heap.objs.size + 1) (defScope st).names []).lookup y.1).isSome = true) := fun ⟨n, v⟩ hy => by
    rcases Sc.par n (List.of_mem_zip hy).1 with q | q
    · exact .inl q
    · exact .inr ⟨q, PySem.W.cellsFrom_some _ _ _ (.inl q)⟩
  refine codeAny_call_function (by have := rm.dp; omega) (KX _ _ lk) rfl Sc.co Sc.gen rfl (PySem.W.codeRec_of KX hcd) (bd _ _ _ _ ?_)
  refine wpAny_newFunctionEnv_cells Sc.kind hkind fun env he s1 xc => ?_
  subst he
  refine ⟨lim.keeps xc.toInCall.keep, codeAny_func ?_⟩
  have I : Inv (cxX (L2.CX P w) P w K mg base N qual (defScope st) f cdv A o s0 H E) [] (L2.start N vs) H s1 := start_x Sc e0 hl rv xc
  have hq : tS ⟨K, cls⟩ (fun c d _ H => E c d H) δ { nx := fun _ H' => Q .non H', rt := Q } (L2.start N vs) H := by
    obtain ⟨S, ρ, G, ds, m, r, hl, h⟩ := h
    refine ⟨⟨ρ, G, H, G, ρ, H⟩, _, S, ρ, G, ⟨start_mem m r, .refl, fun i d a h1 h2 => ?_, .refl, List.prefix_refl _, .refl⟩, ?_⟩
    · exfalso
      have hm := List.mem_of_getElem? h1
      rcases List.mem_append.mp hm with z | z
      · obtain ⟨_, _, e⟩ := List.mem_map.mp z; cases e
      · cases (List.eq_of_mem_replicate z)
    · unfold bodyRun at h
      cases q : δ (ds.map Sl.val ++ List.replicate (N.length - ds.length) Sl.non) S with
      | next Γ S' => rw [q] at h; exact fun ρ' G' H' σ' s' => h .non ρ' G' H' s'.mem.toS s'.nx (rep_non.mpr rfl)
      | ret d S' => rw [q] at h; exact fun v ρ' G' H' m' n' _ r' => h v ρ' G' H' m' n' r'
      | exc e Γ S' => rw [q] at h; exact fun c dx ρ' G' H' σ' s' er => h c dx ρ' G' H' s'.mem.toS s'.nx er
      | brk _ _ => rw [q] at h; exact h.elim
      | cont _ _ => rw [q] at h; exact h.elim
      | stuck => rw [q] at h; exact h.elim
  refine wpAny_mono ((hbody cdv A o s0 H E (rm.deeper _)).run [] s1 (L2.start N vs) H _ I hq) (fun fl s' hs => ?_) fun e s' hs => hs
  have fin : ∀ {σ' : L2.St} {H' : Hp} {v : V} {u : Value}, Inv (cxX (L2.CX P w) P w K mg base N qual (defScope st) f cdv A o s0 H E) [] σ' H' s' → L2.RelV v u → Q v H' → CE o P w H s0 Q u s' :=
    fun {σ' H' v u} J rv q => ⟨v, H', J.os, J.bare, J.base, J.hok, rv, q⟩
  cases fl with
  | ret u =>
    obtain ⟨v, σ', H', J, rv, q⟩ := hs
    exact fin J rv q
  | next =>
    obtain ⟨σ', H', J, q⟩ := hs
    exact fin (v := V.non) (u := Value.none) J rfl q
  | brk =>
    obtain ⟨_, _, _, q⟩ := hs
    exact False.elim q
  | cont =>
    obtain ⟨_, _, _, q⟩ := hs
    exact False.elim q
end
section
variable {X : Cx} {cls : Nat → Addr} {W : WX} {k : Nat} {f : Addr} {fd : FuncData} {ps : List Str} {x : Str} {p pos : Pos} {e a : Expr} {es : List Expr} {α : Da} {δa : De} {F : List D → List D → Res D} {sp : Sp}
theorem goesX {pins : List (Addr × Obj)} {σ : L2.St} {H : Hp} {s : Shared} {Q : VK} {E : XK} {us : List Value} {vs : List V} (Fn : FnX X.prog X.w X.K X.mg X.base k f fd ps sp) (rm : RoomX k X.A) (bd : Binds X.K fd ps []) (pa : PassesAt (L2.CX X.prog X.w) X σ E)
    (I : Inv X pins σ H s) (rv : Vals vs us) (h : sp vs H Q E) : wpAny (model X.prog X.w) X.A (call (.ref f) us) (EP X pins σ Q) X.xe s := by
  have b2 : BindsTo s fd ⟨us, []⟩ (ps.zip us) := by
    have z := bd s us I.kIn (by rw [List.append_nil, ← rv.length]; exact Fn.lng _ _ _ _ h)
    rwa [List.append_nil] at z
  refine wpAny_call (codeAny_mono (Fn.goes X.A X.stack s H ⟨us, []⟩ us vs Q E rm I.env0 b2 rv h) ?_)
  rintro (er | ⟨u⟩ | _ | _ | _) s2 hq
  all_goals first | exact pa pins H s er s2 I hq | exact I.after hq | exact hq.elim
theorem de_callX (Fn : FnX X.prog X.w X.K X.mg X.base k f fd ps (spD ⟨X.K, cls⟩ ps.length F)) (tk : Takes X W) (rm : RoomX k X.A) (hg : Gl X x) (hm : X.mg x = some (.ref f)) (hk : PySem.W.keepIn X.K (.ref f) = true) (bd : Binds X.K fd ps [])
    (ha : DA X cls W (e :: es) α) (hal : ALen α ps.length) (hdb : (x == ("__debug__" : Str)) = false := by decide) (he : starEach (e :: es) X.env = (false, eval e X.env) :: starEach es X.env := by rfl) (pl : (backTo pos (starEach es X.env)).any (·.1) = false := by rfl) :
    DE X cls W (.Call (.Name x p) (e :: es) [] pos) (eCall F α) := ⟨fun pins s σ H Q I h => by
  refine wpAny_Call_Name_kw (ld_glob I hg hm ?_ hdb)
  exact PySem.W.callWith_K (h₀ := X.base) I.ok.mod.kin hk (thn (ha.run pos pins s σ H _ I (exG tk hal h)) fun us s1 ⟨vs, H1, I1, rv, q⟩ => ⟨I1.kIn, goesX Fn rm bd (passAt tk σ) I1 rv q⟩) he pl⟩
theorem spD_re {K : PySem.W.Frag} {cls' : Nat → Addr} (hc : ∀ n, cls' (n + 3) = cls (n + 3)) {np : Nat} {vs : List V} {H : Hp} {Q : VK} {E : XK} (h : spD ⟨K, cls'⟩ np F vs H Q E) : spD ⟨K, cls⟩ np F vs H Q E := by
  obtain ⟨S, ρ, G, ds, m, r, hl, h⟩ := h
  have hc' : ∀ n, cls (n + 3) = cls' (n + 3) := fun n => (hc n).symm
  refine ⟨S, ρ, G, ds, Mem.re (C := ⟨K, cls'⟩) (C' := ⟨K, cls⟩) rfl hc' rfl m, Reps.re (C := ⟨K, cls'⟩) (C' := ⟨K, cls⟩) rfl hc' _ _ r, hl, ?_⟩
  split at h
  · exact fun v ρ' G' H' m' n' r' => h v ρ' G' H' (Mem.re (C := ⟨K, cls⟩) (C' := ⟨K, cls'⟩) rfl hc rfl m') n' (Rep.re (C := ⟨K, cls⟩) (C' := ⟨K, cls'⟩) rfl hc _ _ r')
  · refine fun c dx ρ' G' H' m' n' r' => h c dx ρ' G' H' (Mem.re (C := ⟨K, cls⟩) (C' := ⟨K, cls'⟩) rfl hc rfl m') n' ?_
    obtain ⟨e1, e2, e3⟩ := r'
    refine ⟨by rw [e1]; exact congrArg _ (hc' _), e2, fun z => ?_⟩
    obtain ⟨d, vs, q1, q2, q3, q4⟩ := e3 z
    exact ⟨d, vs, q1, q2, q3, Reps.re (C := ⟨K, cls⟩) (C' := ⟨K, cls'⟩) rfl hc _ _ q4⟩
  · exact h
theorem FnX.re {P : Program} {w : World} {K : PySem.W.Frag} {mg : Str → Option Value} {base : Heap} {cls' : Nat → Addr} {np : Nat} (Fn : FnX P w K mg base k f fd ps (spD ⟨K, cls⟩ np F)) (hc : ∀ n, cls' (n + 3) = cls (n + 3)) : FnX P w K mg base k f fd ps (spD ⟨K, cls'⟩ np F) :=
  ⟨fun vs H Q E h => Fn.lng vs H Q E (spD_re hc h), fun A o s H ar us vs Q E r e b v h => Fn.goes A o s H ar us vs Q E r e b v (spD_re hc h)⟩
/-! ### repr of anything -/
def dReprA (d : D) : Option D := match d with
  | .non => some (.str "None")
  | .bl b => some (.str (if b then "True" else "False"))
  | .int i => if i.natAbs.log2 < 1920 then some (.str (toString i)) else none
  | .str z => if (reprText z).length ≤ sizeLine then some (.str (reprText z)) else none
  | _ => dRepr d
def rReprG (K : PySem.W.Frag) : List V → Hp → VK → Prop := fun xs H Q => ∃ a q, xs = [.ref a] ∧ Dp K H (.ref a) q ∧ q.showable = true ∧ q.hasDict = false ∧ q.depth ≤ 180 ∧ q.shown.length ≤ sizeLine ∧ Q (.str q.shown) H
def rReprA (K : PySem.W.Frag) : List V → Hp → VK → Prop := fun xs H Q => (xs = [.non] ∧ Q (.str "None") H) ∨ (∃ b, xs = [.bl b] ∧ Q (.str (if b then "True" else "False")) H) ∨ (∃ i, xs = [.int i] ∧ i.natAbs.log2 < 1920 ∧ Q (.str (toString i)) H) ∨ (∃ z, xs = [.str z] ∧ (reprText z).length ≤ sizeLine ∧ Q (.str (reprText z)) H) ∨ rReprG K xs H Q
theorem call_reprA (hu : X.A.units + 190 < cLine) (gd : X.A.guards = some []) : CallR X (.builtin "repr") (rReprA X.K) := by
  intro pins s σ H xs us Q I r h
  rcases h with ⟨rfl, q⟩ | ⟨b, rfl, q⟩ | h | ⟨z, rfl, hz, q⟩ | h
  · obtain ⟨u, rfl, ru⟩ := vals1 r
    obtain rfl : u = Value.none := ru
    exact PySem.P.repr_of_none ⟨.str _, H, I.tok _, ⟨_, rfl⟩, q⟩
  · obtain ⟨u, rfl, ru⟩ := vals1 r
    obtain rfl : u = Value.bool b := ru
    exact PySem.P.repr_of_bool ⟨.str _, H, I.tok _, ⟨_, rfl⟩, q⟩
  · exact SkE.call_repr_int pins s σ H xs us Q I r h
  · obtain ⟨u, rfl, t, rfl⟩ := vals1 r
    exact PySem.P.repr_of_str ⟨.str _, H, I.tok _, ⟨_, rfl⟩, q⟩ hz
  · exact call_reprG hu gd pins s σ H xs us Q I r h
theorem rc_reprA {C : Cn} : RC1 C (RS C) (rReprA C.K) dReprA := fun S ρ G H x d dx Q m rx e q => by
  unfold dReprA at e
  split at e
  · cases e
    rw [rt_non] at rx
    subst rx
    exact .inl ⟨rfl, q _ _ _ _ m .refl (rep_str.mpr rfl)⟩
  · rename_i b
    cases e
    rw [rt_bl] at rx
    subst rx
    exact .inr (.inl ⟨b, rfl, q _ _ _ _ m .refl (rep_str.mpr rfl)⟩)
  · rename_i i
    split at e
    · rename_i hi
      cases e
      rw [rt_int] at rx
      subst rx
      exact .inr (.inr (.inl ⟨i, rfl, hi, q _ _ _ _ m .refl (rep_str.mpr rfl)⟩))
    · cases e
  · rename_i z
    split at e
    · rename_i hi
      cases e
      rw [rt_str] at rx
      subst rx
      exact .inr (.inr (.inr (.inl ⟨z, rfl, hi, q _ _ _ _ m .refl (rep_str.mpr rfl)⟩)))
    · cases e
  · exact .inr (.inr (.inr (.inr (rc_repr S ρ G H x d dx Q m rx e q))))
theorem de_reprA {k : Nat} (rm : RoomX k X.A) (hg : Gl X "repr") (hm : X.mg "repr" = none) (ha : DO X cls W a δa) (he : starEach [a] X.env = (false, eval a X.env) :: starEach [] X.env := by rfl) (hpl : (backTo pos (starEach [] X.env)).any (·.1) = false := by rfl) : DE X cls W (.Call (.Name "repr" p) [a] [] pos) (eUn dReprA δa) :=
  x_c1 back_RS (pe_callB (call_reprA (by have := rm.un; omega) rm.gd) hg hm (by decide +kernel) (da1 ha he) (by decide) (by decide) he hpl) rc_reprA
@[simp] theorem dReprA_lst (xs : List D) : dReprA (.lst xs) = dRepr (.lst xs) := Eq.trans rfl rfl
@[simp] theorem dReprA_tup (xs : List D) : dReprA (.tup xs) = dRepr (.tup xs) := Eq.trans rfl rfl
end
end DL

namespace DL
open PySem PySem.Spec PyProof.Rows L2
/-! ### a dict is locked while it is walked -/
section
variable {C : Cn} {W : WX} {en : Ent} {Γ : List Sl} {S : List D} {ρ ρ' : List Addr} {G G' H H' : Hp} {σ : L2.St} {d : Addr} {kvs : List (Key × V)} {od : Obj}
theorem noTE_frz {a : Addr} {o : Obj} {u : HO} (h : H a = some (.frz o u)) : NoTE (H a) := by rw [h]; exact ⟨fun _ z => (nomatch z), fun _ z => (nomatch z)⟩
theorem Mem.other (m : Mem C Γ S ρ G H σ) {o : HO} (gd : G d = some (.dK kvs)) (ho : EqK (.dK kvs) o) (ht : NoTE (H d)) : Mem C Γ S ρ G (upd H d o) σ where
  sub := ⟨fun b u h => by
    by_cases z : b = d
    · subst z; rw [gd] at h; cases h; exact ⟨o, upd_same, ho⟩
    · rw [upd_ne z]; exact m.sub.at_ b u h, fun i => (m.sub.tab i).upd ht⟩
  val := m.val
  own := fun i x h => by
    obtain ⟨b, e, r, g, n⟩ := m.own i x h
    exact ⟨b, e, r.at (fun z => by rw [z, gd] at g; cases g), g, n⟩
  inj := m.inj
  sto := fun i x h => by
    obtain ⟨b, e, r⟩ := m.sto i x h
    have g := m.stG b (List.mem_of_getElem? e)
    exact ⟨b, e, r.at (fun z => by rw [z, gd] at g; cases g)⟩
  stG := m.stG
  len := m.len
  nd := m.nd
  wid := m.wid
  xcp := m.xcp
theorem Mem.lock (m : Mem C Γ S ρ G H σ) (hd : H d = some (.dK kvs)) (gd : G d = some (.dK kvs)) : Mem C Γ S ρ G (upd H d (.frz od (.dK kvs))) σ := m.other gd (.inr ⟨kvs, od, rfl, rfl⟩) (noTE_dK hd)
theorem Mem.unlock (m : Mem C Γ S ρ G H σ) (hd : H d = some (.frz od (.dK kvs))) (gd : G d = some (.dK kvs)) : Mem C Γ S ρ G (upd H d (.dK kvs)) σ := m.other gd (.inl rfl) (noTE_frz hd)
theorem Nx.unlock {E E' : Hp} (n : Nx ρ G E' ρ' G' H') (hE : ∀ a, a ≠ d → E' a = E a) (h1 : E' d = none ↔ E d = none) (h2 : ∀ o, (∀ ps, o ≠ .tbl ps) → E d = some o → o = .dK kvs) : Nx ρ G E ρ' G' (upd H' d (.dK kvs)) where
  pre := n.pre
  ext := n.ext
  new := fun a o h => by
    rcases n.new a o h with z | z
    · exact .inl z
    · by_cases y : a = d
      · subst y; exact .inr (h1.mp z)
      · rw [hE a y] at z; exact .inr z
  keep := fun a o t h p => by
    by_cases y : a = d
    · subst y; rw [upd_same, h2 o t h]
    · rw [upd_ne y]; exact n.keep a o t (by rw [hE a y]; exact h) p
  live := fun a h => by
    by_cases y : a = d
    · subst y; rw [upd_same] at h; cases h
    · rw [upd_ne y] at h; have := n.live a h; rw [hE a y] at this; exact this
  fre := fun a h => by
    rcases n.fre a h with z | z
    · exact .inl z
    · by_cases y : a = d
      · subst y; exact .inr (h1.mp z)
      · rw [hE a y] at z; exact .inr z
theorem Nx.lock {E E' : Hp} (n : Nx ρ G E ρ' G' H) (hE : ∀ a, a ≠ d → E' a = E a) (h1 : E' d = none ↔ E d = none) (h2 : ∀ o, (∀ ps, o ≠ .tbl ps) → E' d = some o → o = .frz od (.dK kvs)) : Nx ρ G E' ρ' G' (upd H d (.frz od (.dK kvs))) where
  pre := n.pre
  ext := n.ext
  new := fun a o h => by
    rcases n.new a o h with z | z
    · exact .inl z
    · by_cases y : a = d
      · subst y; exact .inr (h1.mpr z)
      · exact .inr (by rw [hE a y]; exact z)
  keep := fun a o t h p => by
    by_cases y : a = d
    · subst y; rw [upd_same, h2 o t h]
    · rw [upd_ne y]; exact n.keep a o t (by rw [← hE a y]; exact h) p
  live := fun a h => by
    by_cases y : a = d
    · subst y; rw [upd_same] at h; cases h
    · rw [upd_ne y] at h; have := n.live a h; rw [hE a y]; exact this
  fre := fun a h => by
    rcases n.fre a h with z | z
    · exact .inl z
    · by_cases y : a = d
      · subst y; exact .inr (h1.mpr z)
      · exact .inr (by rw [hE a y]; exact z)
/-- the entry, as it is while d is locked -/
theorem ent_lock (s : SI C en Γ S ρ G H σ) (hd : H d = some (.dK kvs)) (gd : G d = some (.dK kvs)) (od : Obj) : ∃ en' : Ent, SI C en' Γ S ρ G (upd H d (.frz od (.dK kvs))) σ ∧
    (∀ Γ' S' ρ' G' H' σ', SI C en' Γ' S' ρ' G' H' σ' → H' d = some (.frz od (.dK kvs)) ∧ SI C en Γ' S' ρ' G' (upd H' d (.dK kvs)) σ') ∧
    (∀ S' ρ' G' H', MemS C S' ρ' G' H' → Nx en'.ρ en'.G en'.H ρ' G' H' → Sub en'.B G' ∧ Old en'.F H' → H' d = some (.frz od (.dK kvs)) ∧ MemS C S' ρ' G' (upd H' d (.dK kvs)) ∧ Nx en.ρ en.G en.H ρ' G' (upd H' d (.dK kvs)) ∧ Sub en.B G' ∧ Old en.F (upd H' d (.dK kvs))) := by
  have dρ : d ∉ ρ := fun z => by have := s.mem.stG d z; rw [gd] at this; cases this
  have dρ0 : d ∉ en.ρ := fun z => dρ (s.nx.pre.subset z)
  have e4 : ∀ o, (∀ ps, o ≠ .tbl ps) → en.H d = some o → o = .dK kvs := fun o t h => by
    have := s.nx.keep d o t h dρ0
    rw [hd] at this; cases this; rfl
  obtain ⟨EH, e1, e2, e3⟩ : ∃ EH : Hp, (∀ a, a ≠ d → EH a = en.H a) ∧ (EH d = none ↔ en.H d = none) ∧ ∀ o, (∀ ps, o ≠ .tbl ps) → EH d = some o → o = .frz od (.dK kvs) := by
    cases q : en.H d with
    | none => exact ⟨en.H, fun _ _ => rfl, ⟨fun _ => rfl, fun _ => q⟩, fun o _ h => by rw [q] at h; cases h⟩
    | some o =>
      by_cases t : ∃ ps, o = .tbl ps
      · obtain ⟨ps, rfl⟩ := t
        exact ⟨en.H, fun _ _ => rfl, ⟨fun h => (by rw [q] at h; cases h), fun h => (by cases h)⟩, fun o t h => by rw [q] at h; cases h; exact absurd rfl (t ps)⟩
      · exact ⟨upd en.H d (.frz od (.dK kvs)), fun a h => upd_ne h, ⟨fun h => (by rw [upd_same] at h; cases h), fun h => (by cases h)⟩, fun o _ h => by rw [upd_same] at h; cases h; rfl⟩
  have oldb : ∀ H', Old (upd H d (.frz od (.dK kvs))) H' → Old en.F (upd H' d (.dK kvs)) := fun H' o a ob u h => by
    have h3 := s.old a ob u h
    have y : a ≠ d := fun z => by rw [z, hd] at h3; cases h3
    rw [upd_ne y]
    exact o a ob u (by rw [upd_ne y]; exact h3)
  refine ⟨⟨en.ρ, en.G, EH, G, ρ, upd H d (.frz od (.dK kvs))⟩, ⟨s.mem.lock hd gd, s.nx.lock e1 e2 e3, fun i x a h1 h2 => ?_, .refl, List.prefix_refl _, .refl⟩, fun Γ' S' ρ' G' H' σ' s' => ?_, fun S' ρ' G' H' m n o => ?_⟩
  · have := s.frs i x a h1 h2
    by_cases y : a = d
    · subst y; exact e2.mpr this
    · show EH a = none; rw [e1 a y]; exact this
  · have hd' : H' d = some (.frz od (.dK kvs)) := s'.old d od _ upd_same
    have gd' : G' d = some (.dK kvs) := s'.base _ _ gd
    exact ⟨hd', s'.mem.unlock hd' gd', s'.nx.unlock e1 e2 e4, fun i x a h1 h2 => by
      have := s'.frs i x a h1 h2
      by_cases y : a = d
      · subst y; exact e2.mp this
      · rw [← e1 a y]; exact this, s.base.trans s'.base, s.basr.trans s'.basr, oldb _ s'.old⟩
  · have hd' : H' d = some (.frz od (.dK kvs)) := o.2 d od _ upd_same
    have gd' : G' d = some (.dK kvs) := o.1 _ _ gd
    exact ⟨hd', m.unlock hd' gd', n.unlock e1 e2 e4, s.base.trans o.1, oldb _ o.2⟩
theorem post_lock {Dn : Ends} {u : HO} {en' : Ent} (hu : u = .dK kvs)
    (b1 : ∀ Γ' S' ρ' G' H' σ', SI C en' Γ' S' ρ' G' H' σ' → H' d = some (.frz od (.dK kvs)) ∧ SI C en Γ' S' ρ' G' (upd H' d (.dK kvs)) σ')
    (b2 : ∀ S' ρ' G' H', MemS C S' ρ' G' H' → Nx en'.ρ en'.G en'.H ρ' G' H' → Sub en'.B G' ∧ Old en'.F H' → H' d = some (.frz od (.dK kvs)) ∧ MemS C S' ρ' G' (upd H' d (.dK kvs)) ∧ Nx en.ρ en.G en.H ρ' G' (upd H' d (.dK kvs)) ∧ Sub en.B G' ∧ Old en.F (upd H' d (.dK kvs))) :
    ∀ {o : Out}, (∀ e Γ S, o ≠ .exc e Γ S) → PostS C W en Dn o → PostS C W en' ⟨fun σ' H' => H' d = some (.frz od u) ∧ Dn.nx σ' (upd H' d u), fun v H' => H' d = some (.frz od u) ∧ Dn.rt v (upd H' d u), fun σ' H' => H' d = some (.frz od u) ∧ Dn.bk σ' (upd H' d u), fun σ' H' => H' d = some (.frz od u) ∧ Dn.ct σ' (upd H' d u)⟩ o
  | .next Γ S, _, q => fun ρ G H σ s => by subst hu; obtain ⟨x, y⟩ := b1 _ _ _ _ _ _ s; exact ⟨x, q ρ G _ σ y⟩
  | .brk Γ S, _, q => fun ρ G H σ s => by subst hu; obtain ⟨x, y⟩ := b1 _ _ _ _ _ _ s; exact ⟨x, q ρ G _ σ y⟩
  | .cont Γ S, _, q => fun ρ G H σ s => by subst hu; obtain ⟨x, y⟩ := b1 _ _ _ _ _ _ s; exact ⟨x, q ρ G _ σ y⟩
  | .ret d S, _, q => fun v ρ G H m n o r => by subst hu; obtain ⟨x, y, z, t, w⟩ := b2 _ _ _ _ m n o; exact ⟨x, q v ρ G _ y z ⟨t, w⟩ r⟩
  | .exc e Γ S, h, _ => absurd rfl (h e Γ S)
  | .stuck, _, q => q
end
end DL

namespace DL
open PySem PySem.Spec PyProof.Rows L2
/-! ### for x in d -/
def iK (i : Nat) : Da := fun Γ S => match Γ[i]? with
  | some (.val (.dct ks _)) => .ok (ks.map keyK) S
  | _ => .stuck
def Lk (i : Nat) (σ : L2.St) (H : Hp) : Prop := ∃ d od kvs, σ[i]? = some (some (V.ref d)) ∧ H d = some (.frz od (.dK kvs))
theorem PS.or {X : Cx} {e : Stmt} {t t' : TS} (h : PS X e t) (h' : PS X e t') : PS X e (fun D σ H => t D σ H ∨ t' D σ H) := ⟨fun pins s σ H D I k => by
  rcases k with k | k
  · exact h.run pins s σ H D I k
  · exact h'.run pins s σ H D I k⟩
section
variable {X : Cx} {cls : Nat → Addr} {W : WX} {tg : Expr} {x : Str} {p0 pos : Pos}
theorem src_keys {C : Cn} {d : Addr} {od : Obj} {kvs : List (Key × V)} {ks : List Key} {vs : List V} {ρ0 : List Addr} {G0 H0 : Hp} (h : H0 d = some (.frz od (.dK kvs))) (e : kvs = ks.zip vs) (l : ks.length = vs.length) : SrcOk C (Itk d od kvs) (ks.map keyK) ρ0 G0 H0 where
  go := fun S ρ G H i m s _ o hi => ⟨o d od _ h, by rw [e, List.length_zip, ← l, Nat.min_self]; simpa using hi⟩
  yld := fun S ρ G H i x H' d2 m s pr o hd y => by
    obtain ⟨rfl, k, v, hk, rfl⟩ := y
    rw [e, List.getElem?_zip_eq_some] at hk
    rw [List.getElem?_map, hk.1] at hd
    cases hd
    exact ⟨G, m, .refl, keyK_rep k⟩
  stop := fun S ρ G H m s _ o => ⟨o d od _ h, by rw [e, List.length_zip, ← l, Nat.min_self]; simp⟩
theorem pi_k (i : Nat) (hN : X.N[i]? = some x := by rfl) (hv : Vis X.env.scope x := by first | exact Or.inl rfl | exact Or.inr (Or.inl rfl) | exact Or.inr (Or.inr rfl)) (hd : (x == ("__debug__" : Str)) = false := by decide)
    (hcd : (x == ("__classdict__" : Str)) = false := by decide) : PI X tg (.Name x p0) (fun σ H R => Lk i σ H ∧ tI ⟨X.K, cls⟩ W (iK i) σ H R) := PI.weak (pi_keys (pv i hN hv hd hcd)) fun σ H R ⟨⟨d, od, kvs, e, hl⟩, Γ, S, ρ, G, m, q⟩ => by
  unfold iK at q
  cases z : Γ[i]? with
  | none => rw [z] at q; exact q.elim
  | some sl =>
    rw [z] at q
    cases sl with
    | val dv =>
      cases dv with
      | dct ks xs =>
        obtain ⟨v, e1, r⟩ := m.val i _ z
        rw [e] at e1; cases e1
        rw [Rep] at r
        obtain ⟨d', vs, e2, g, hl2, rr⟩ := r
        cases e2
        have hk := m.sub.dk g
        rcases hk with hk | ⟨ob, hk⟩
        · rw [hl] at hk; cases hk
        · rw [hl] at hk; cases hk
          refine ⟨_, e, d, od, rfl, .inl ⟨_, hl, q _ ρ G H m .refl (src_keys hl rfl (hl2.trans rr.length))⟩⟩
      | _ => exact q.elim
    | _ => exact q.elim
/-- a loop's core: what is walked is had by a reading of the kind of DI's -/
theorem for_core {ι : Da} {p : Pat} {kl : List Nat} {β : Ds} {en : Ent} {Γ : List Sl} {S : List D} {ρ : List Addr} {G H : Hp} {σ : L2.St} {Dn : Ends} (s : SI ⟨X.K, cls⟩ en Γ S ρ G H σ) (q : PostS ⟨X.K, cls⟩ W en Dn (sFor ι p kl β Γ S)) :
    tFor (tI ⟨X.K, cls⟩ W ι) (p.g X.K) (tS ⟨X.K, cls⟩ W β) Dn σ H := ⟨Γ, S, ρ, G, s.mem, by
  unfold sFor at q
  cases z : ι Γ S with
  | exc x S1 => rw [z] at q; exact fun cls' dx ρ1 G1 H1 m n c => q cls' dx ρ1 G1 H1 σ (s.step m n) c
  | stuck => rw [z] at q; exact q.elim
  | ok xs S1 =>
    rw [z] at q
    simp only [after_ok] at q
    intro J ρ1 G1 H1 m1 n1 sk
    have s1 := s.step m1 n1
    have q1 := q.rebase (B := G1) (R := ρ1) (F := H1) s1.base s1.basr s1.old
    refine ⟨fun i m σ H => m = xs.length - i ∧ i ≤ xs.length ∧ ∃ Γ S ρ G, SI ⟨X.K, cls⟩ { en with B := G1, R := ρ1, F := H1 } Γ S ρ G H σ ∧ PostS ⟨X.K, cls⟩ W { en with B := G1, R := ρ1, F := H1 } Dn (forD p kl β (xs.drop i) Γ S),
      ⟨xs.length, by omega, Nat.zero_le _, Γ, S1, ρ1, G1, s1.to, q1⟩, fun i m σ H ⟨hm, hi, Γ, S, ρ, G, s, q⟩ => ?_⟩
    by_cases hlt : i < xs.length
    · rw [List.drop_eq_getElem_cons hlt] at q
      refine .inr ⟨sk.go S ρ G H i s.mem.toS s.base s.basr s.old hlt, fun σ' H' => ∃ Γ S ρ G, SI ⟨X.K, cls⟩ { en with B := G1, R := ρ1, F := H1 } Γ S ρ G H' σ' ∧ PostS ⟨X.K, cls⟩ W { en with B := G1, R := ρ1, F := H1 } Dn (forD p kl β (xs.drop (i + 1)) Γ S),
        fun σ' H' n => ⟨xs.length - (i + 1), by omega, rfl, hlt, n⟩, fun x H' y => ?_⟩
      obtain ⟨G', m', n', r'⟩ := sk.yld S ρ G H i x H' _ s.mem.toS s.base s.basr s.old (List.getElem?_eq_getElem hlt) y
      have mm := s.mem.step n' m'
      have s' := s.step mm n'
      rw [forD] at q
      cases hbd : p.bind xs[i] Γ with
      | none => rw [hbd] at q; exact q.elim
      | some Γ1 =>
        rw [hbd] at q
        refine Pat.ok (C := ⟨X.K, cls⟩) p xs[i] x Γ Γ1 σ mm r' hbd _ fun σ2 m2 sb kp => ?_
        refine ⟨_, Γ1, S, ρ, G', sb _ s', ?_⟩
        simp only at q
        cases hz : β Γ1 S with
        | next Γ2 S2 => rw [hz] at q; exact fun ρ3 G3 H3 σ3 s3 => ⟨_, S2, ρ3, G3, s3.clr, q⟩
        | cont Γ2 S2 => rw [hz] at q; exact fun ρ3 G3 H3 σ3 s3 => ⟨_, S2, ρ3, G3, s3.clr, q⟩
        | brk Γ2 S2 => rw [hz] at q; exact fun ρ3 G3 H3 σ3 s3 => q ρ3 G3 H3 σ3 s3.clr
        | ret d S2 => rw [hz] at q; exact q
        | exc e Γ2 S2 => rw [hz] at q; exact q
        | stuck => rw [hz] at q; exact q.elim
    · have e : i = xs.length := by omega
      subst e
      rw [List.drop_length, forD] at q
      exact .inl ⟨sk.stop S ρ G H s.mem.toS s.base s.basr s.old, q ρ G H σ s⟩⟩
def noXc : Out → Out
  | .exc _ _ _ => .stuck
  | o => o
def sForK (i : Nat) (p : Pat) (kl : List Nat) (β : Ds) : Ds := fun Γ S => noXc (sFor (iK i) p kl β Γ S)
theorem ds_forK {body : List Stmt} {p : Pat} {kl : List Nat} {β : Ds} (i : Nat) (hp : PassesOwn (model X.prog X.w) X.A X.env X.xe) (hc : X.calm = true) (hg : PG X tg (p.g X.K)) (hb : DSs X cls W body β)
    (hN : X.N[i]? = some x := by rfl) (hv : Vis X.env.scope x := by first | exact Or.inl rfl | exact Or.inr (Or.inl rfl) | exact Or.inr (Or.inr rfl)) (hd : (x == ("__debug__" : Str)) = false := by decide)
    (hcd : (x == ("__classdict__" : Str)) = false := by decide)
    (hs : ∀ y, foldedSetIterable (.Name x p0) X.env y = pure y := by intro _; rfl) : DS X cls W (.For tg (.Name x p0) body [] pos) (sForK i p kl β) := by
  have base := ps_for (pos := pos) hp hc (pi_k (cls := cls) (W := W) (p0 := p0) (tg := tg) i hN hv hd hcd) hg hb hs
  refine PS.weak (PS.or base (ps_lock base)) fun Dn σ H ⟨en, Γ, S, ρ, G, s, q⟩ => ?_
  unfold sForK at q
  have nx : ∀ e Γ' S', sFor (iK i) p kl β Γ S ≠ .exc e Γ' S' := fun e Γ' S' z => by rw [z] at q; exact q
  have q' : PostS ⟨X.K, cls⟩ W en Dn (sFor (iK i) p kl β Γ S) := by
    cases z : sFor (iK i) p kl β Γ S with
    | exc e Γ' S' => exact absurd z (nx e Γ' S')
    | _ => rw [z] at q; exact q
  -- the dict
  obtain ⟨ks, xs, hΓ⟩ : ∃ ks xs, Γ[i]? = some (.val (.dct ks xs)) := by
    unfold sFor iK at q'
    split at q'
    · rename_i ks xs h; exact ⟨ks, xs, h⟩
    · exact q'.elim
  obtain ⟨v, e1, r⟩ := s.mem.val i _ hΓ
  rw [Rep] at r
  obtain ⟨d, vs, rfl, g, hl, rr⟩ := r
  rcases s.mem.sub.dk g with hk | ⟨od, hk⟩
  · refine .inr ⟨d, _, hk, trivial, fun od => ?_⟩
    obtain ⟨en', s', b1, b2⟩ := ent_lock s hk g od
    have q2 := post_lock (u := .dK (ks.zip vs)) rfl b1 b2 nx q'
    have := for_core s' q2
    exact ⟨⟨d, od, _, e1, upd_same⟩, this⟩
  · exact .inl ⟨⟨d, od, _, e1, hk⟩, for_core s q'⟩
end
end DL

namespace DL
open PySem PySem.Spec PyProof.Rows L2
/-! ### e.f, o.f = e -/
def eAtt (f : Str) (g : Nat → Bool) (a : De) : De := fun Γ S => (a Γ S).bind fun x S1 => match deref S1 x with
  | .ins c ns xs => if g c = true then ofO ((ns.zip xs).lookup f) S1 else .stuck
  | _ => .stuck
def putD (f : Str) (d : D) : List Str → List D → List Str × List D
  | n :: ns, x :: xs => if n = f then (n :: ns, d :: xs) else (n :: (putD f d ns xs).1, x :: (putD f d ns xs).2)
  | _, _ => ([f], [d])
theorem putD_rep {C : Cn} {ρ : List Addr} {G : Hp} {f : Str} {d : D} {v : V} (rd : Rep C ρ G d v) : ∀ {ns : List Str} {xs : List D} {vs : List V}, Reps C ρ G xs vs → ns.length = xs.length →
    ∃ us, putF f v (ns.zip vs) = (putD f d ns xs).1.zip us ∧ (putD f d ns xs).1.length = (putD f d ns xs).2.length ∧ Reps C ρ G (putD f d ns xs).2 us
  | [], [], vs, r, _ => by
    rw [r.inv0]
    refine ⟨[v], ?_, by unfold putD; rfl, by unfold putD; exact .cons rd .nil⟩
    unfold putD; unfold putF; rfl
  | [], x :: xs, vs, r, h => by cases h
  | n :: ns, [], vs, r, h => by cases h
  | n :: ns, x :: xs, vs, r, h => by
    obtain ⟨u, us, rfl, h1, h2⟩ := r.inv
    obtain ⟨ws, e1, e2, e3⟩ := putD_rep rd (ns := ns) h2 (by simpa using h)
    rw [List.zip_cons_cons]
    unfold putD putF
    by_cases e : n = f
    · rw [if_pos e, if_pos e]
      exact ⟨v :: us, rfl, by simpa using h, .cons rd h2⟩
    · rw [if_neg e, if_neg e, e1]
      exact ⟨u :: ws, rfl, by simp [e2], .cons h1 e3⟩
def sAtt (f : Str) (g : Nat → Bool) (o e : De) : Ds := fun Γ S => after (e Γ S) Γ fun d S1 => after (o Γ S1) Γ fun x S2 => match x with
  | .ptr q => match S2[q]? with
    | some (.ins c ns xs) => if g c = true ∧ ns.length < 900 then .next Γ (S2.set q (.ins c (putD f d ns xs).1 (putD f d ns xs).2)) else .stuck
    | _ => .stuck
  | _ => .stuck
section
variable {X : Cx} {cls : Nat → Addr} {W : WX} {a e o : Expr} {δa δo ε ε1 ε2 : De} {pos pos' p apos cpos : Pos} {f : Str} {g : Nat → Bool}
theorem de_att (hg : ∀ c, g c = true → Cls X.K (cls (c + 3)) ∧ NoAttr X.K (cls (c + 3)) f) (ha : DE X cls W a δa) (hb : attributeBase a f X.env (eval a X.env) = eval a X.env := by rfl) : DE X cls W (.Attribute a f pos) (eAtt f g δa) :=
  PE.weak (pe_fld ha hb) fun σ H Q ⟨Γ, S, ρ, G, m, p⟩ => ⟨Γ, S, ρ, G, m, (Post.seq back_RS p).mono fun x H1 ⟨dx, S1, ρ1, G1, m1, n1, r1, p1⟩ => by
    have rt := m1.read (H0 := H1) (.inl r1)
    split at p1
    · rename_i c ns xs ed
      rw [ed] at rt
      obtain ⟨b, dxx, vs, rfl, h1, hl, rr⟩ := rt
      split at p1
      · rename_i hgc
        obtain ⟨d, hd, p2⟩ := ofO_post p1
        obtain ⟨v, hv, rv⟩ := zip_lookup rr hd
        exact ⟨b, _, dxx, _, v, rfl, h1, (hg c hgc).1, (hg c hgc).2, hv, p2.at m1 rv⟩
      · exact p1.elim
    · exact p1.elim⟩
theorem ds_att {value : Expr} (hg : ∀ c, g c = true → Cls X.K (cls (c + 3)) ∧ NoAttr X.K (cls (c + 3)) f) (ho : DE X cls W o δo) (hv : DE X cls W value ε) (hs : swapsWith value (some (.Attribute o f pos')) pos.line X.env = pure false := by rfl) :
    DS X cls W (.Assign [.Attribute o f pos'] value pos) (sAtt f g δo ε) := PS.weak (ps_fld ho hv hs) fun D σ H ⟨en, Γ, S, ρ, G, s, p⟩ =>
  ⟨Γ, S, ρ, G, s.mem, post_after s p fun d S1 ρ1 G1 H1 v m1 n1 s1 r1 p1 => ⟨Γ, S1, ρ1, G1, s1.mem, post_after s1 p1 fun dx S2 ρ2 G2 H2 x m2 n2 s2 r2 p2 => by
    cases dx with
    | ptr q =>
      simp only at p2
      split at p2
      · rename_i c ns xs hx
        split at p2
        · rename_i hgc
          obtain ⟨b, hb, rfl⟩ := rep_ptr.mp r2
          obtain ⟨b', hb', dxx, vs, h1, hl, rr⟩ := m2.sto q _ hx
          rw [hb] at hb'; cases hb'
          obtain ⟨us, e1, e2, e3⟩ := putD_rep (f := f) (r1.mono n2.ext n2.pre) rr hl
          obtain ⟨m4, n4⟩ := m2.poke (a := b) (o := .ins (cls (c + 3)) dxx (putF f v (ns.zip vs))) (d' := .ins c (putD f d ns xs).1 (putD f d ns xs).2) hx hb ⟨dxx, us, by rw [upd_same, e1], e2, e3⟩
          exact ⟨b, _, dxx, _, rfl, h1, (hg c hgc.1).1, (hg c hgc.1).2, by rw [List.length_zip]; have := hgc.2; omega, p2 _ _ _ _ (s2.step m4 n4)⟩
        · exact p2.elim
      · exact p2.elim
    | _ => exact p2.elim⟩⟩
/-! ### o.append(e), o.pop(), o in the store -/
def sAppP (o e : De) : Ds := fun Γ S => after (o Γ S) Γ fun x S1 => match deref S1 x with
  | .lst _ => after (e Γ S1) Γ fun d S2 => match x with
    | .ptr q => match S2[q]? with
      | some (.lst xs) => if xs.length < sizeLine then .next Γ (S2.set q (.lst (xs ++ [d]))) else .stuck
      | _ => .stuck
    | _ => .stuck
  | _ => .stuck
theorem ds_appP {c : Expr} (h : PE X c (tBM X.K "list" rAppend (tE ⟨X.K, cls⟩ W (RS ⟨X.K, cls⟩) δo) (tCons (tE ⟨X.K, cls⟩ W (RS ⟨X.K, cls⟩) ε) tNil))) (hs : swapsWith c none pos.line X.env = pure false := by rfl) : DS X cls W (.Expr c pos) (sAppP δo ε) :=
  PS.weak (ps_expr h hs) fun D σ H ⟨en, Γ, S, ρ, G, s, p⟩ => ⟨Γ, S, ρ, G, s.mem, post_after s p fun dx S1 ρ1 G1 H1 x m1 n1 s1 r1 p1 => by
    have rt := m1.read (H0 := H1) (.inl r1)
    split at p1
    · rename_i xs0 ed
      rw [ed] at rt
      obtain ⟨b0, vs0, rfl, h0, _⟩ := rt
      refine ⟨.inl ⟨rfl, vs0, SqL.of h0⟩, Γ, S1, ρ1, G1, s1.mem, post_after s1 p1 fun d S2 ρ2 G2 H2 v m2 n2 s2 r2 p2 => ?_⟩
      split at p2
      · rename_i q
        split at p2
        · rename_i xs hx
          split at p2
          · rename_i hl
            obtain ⟨a, vs, e1, ha, h1, rr⟩ := sto_at m2 (Rep.mono n2.ext n2.pre _ _ r1) hx
            cases e1
            obtain ⟨m4, n4⟩ := m2.poke (a := b0) (o := .lst (vs ++ [v])) (d' := .lst (xs ++ [d])) hx ha ⟨_, upd_same, rr.append (.cons r2 .nil)⟩
            exact ⟨b0, vs, v, rfl, rfl, h1, by rw [← rr.length]; exact hl, p2 _ _ _ _ (s2.step m4 n4)⟩
          · exact p2.elim
        · exact p2.elim
      · exact p2.elim
    · exact p1.elim⟩
def sPopP (o : De) : Ds := fun Γ S => after (o Γ S) Γ fun x S1 => match x with
  | .ptr q => match S1[q]? with
    | some (.lst xs) => if xs ≠ [] then .next Γ (S1.set q (.lst xs.dropLast)) else .stuck
    | _ => .stuck
  | _ => .stuck
theorem ds_popP {c : Expr} (h : PE X c (tBM0 X.K "list" rPop (tE ⟨X.K, cls⟩ W (RS ⟨X.K, cls⟩) δo))) (hs : swapsWith c none pos.line X.env = pure false := by rfl) : DS X cls W (.Expr c pos) (sPopP δo) :=
  PS.weak (ps_expr h hs) fun D σ H ⟨en, Γ, S, ρ, G, s, p⟩ => ⟨Γ, S, ρ, G, s.mem, post_after s p fun dx S1 ρ1 G1 H1 x m1 n1 s1 r1 p1 => by
    split at p1
    · rename_i q
      split at p1
      · rename_i xs hx
        split at p1
        · rename_i hne
          obtain ⟨a, vs, rfl, ha, h1, rr⟩ := sto_at m1 r1 hx
          have hlen : xs.length - 1 < xs.length := by have := List.length_pos_iff.mpr hne; omega
          obtain ⟨y, hy, _⟩ := rr.get (List.getElem?_eq_getElem hlen)
          obtain ⟨m4, n4⟩ := m1.poke (a := a) (o := .lst vs.dropLast) (d' := .lst xs.dropLast) hx ha ⟨_, upd_same, rr.dropLast⟩
          exact ⟨.inl ⟨rfl, vs, SqL.of h1⟩, a, vs, y, rfl, rfl, h1, by rw [← rr.length]; exact hy, p1 _ _ _ _ (s1.step m4 n4)⟩
        · exact p1.elim
      · exact p1.elim
    · exact p1.elim⟩
/-! ### d[k] = e, del d[k], d.pop(k), d in the store -/
def sPutP (o k e : De) : Ds := fun Γ S => after (e Γ S) Γ fun d S1 => after (o Γ S1) Γ fun x S2 => after (k Γ S2) Γ fun y S3 => match x with
  | .ptr q => match S3[q]?, keyD y with
    | some (.dct ks xs), some kk => if xs.length < sizeLine then .next Γ (S3.set q (.dct (dPut ks xs kk d).1 (dPut ks xs kk d).2)) else .stuck
    | _, _ => .stuck
  | _ => .stuck
theorem sto_dct {C : Cn} {Γ : List Sl} {S : List D} {ρ : List Addr} {G H : Hp} {σ : L2.St} (m : Mem C Γ S ρ G H σ) {q : Nat} {v : V} {ks : List Key} {xs : List D} (r : Rep C ρ G (.ptr q) v) (h : S[q]? = some (.dct ks xs)) :
    ∃ a vs, v = V.ref a ∧ ρ[q]? = some a ∧ H a = some (.dK (ks.zip vs)) ∧ ks.length = xs.length ∧ Reps C ρ G xs vs := by
  obtain ⟨a, ha, rfl⟩ := rep_ptr.mp r
  obtain ⟨b, hb, vs, h1, h2, h3⟩ := m.sto q _ h
  rw [ha] at hb; cases hb
  exact ⟨a, vs, rfl, ha, h1, h2, h3⟩
theorem ds_putP {k val : Expr} (hu : X.A.units + 1 < cLine) (ho : DE X cls W o δo) (hk : DE X cls W k ε1) (hv : DE X cls W val ε2) (hs : swapsWith val (some (.Subscript o k pos')) pos.line X.env = pure false := by rfl) :
    DS X cls W (.Assign [.Subscript o k pos'] val pos) (sPutP δo ε1 ε2) := PS.weak (ps_dput hu ho hk hv hs) fun D σ H ⟨en, Γ, S, ρ, G, s, p⟩ =>
  ⟨Γ, S, ρ, G, s.mem, post_after s p fun d S1 ρ1 G1 H1 v m1 n1 s1 r1 p1 => ⟨Γ, S1, ρ1, G1, s1.mem, post_after s1 p1 fun dx S2 ρ2 G2 H2 x m2 n2 s2 r2 p2 => ⟨Γ, S2, ρ2, G2, s2.mem, post_after s2 p2 fun dy S3 ρ3 G3 H3 y m3 n3 s3 r3 p3 => by
    cases dx with
    | ptr q =>
      simp only at p3
      split at p3
      · rename_i ks xs kk hx hkk
        split at p3
        · rename_i hz
          obtain ⟨a, vs, rfl, ha, h1, hl, rr⟩ := sto_dct m3 (Rep.mono n3.ext n3.pre _ _ r2) hx
          have ek := keyD_v hkk r3
          subst ek
          obtain ⟨us, e1, e2, e3⟩ := put_zip ((r1.mono n2.ext n2.pre).mono n3.ext n3.pre) rr hl kk
          obtain ⟨m4, n4⟩ := m3.poke (a := a) (o := .dK (putK (ks.zip vs) kk v)) (d' := .dct (dPut ks xs kk d).1 (dPut ks xs kk d).2) hx ha ⟨us, by rw [upd_same, e1], e2, e3⟩
          refine ⟨a, _, rfl, DPut.k h1 ?_, p3 _ _ _ _ (s3.step m4 n4)⟩
          rw [List.length_zip, hl, rr.length, Nat.min_self, ← rr.length]; exact hz
        · exact p3.elim
      · exact p3.elim
    | _ => exact p3.elim⟩⟩⟩
def dDropX (k : Key) : List Key → List D → List Key × List D
  | q :: ks, x :: xs => if q = k then dDropX k ks xs else (q :: (dDropX k ks xs).1, x :: (dDropX k ks xs).2)
  | _, _ => ([], [])
theorem drop_zip {C : Cn} {ρ : List Addr} {G : Hp} (k : Key) : ∀ {ks : List Key} {xs : List D} {vs : List V}, Reps C ρ G xs vs → ks.length = xs.length →
    ∃ us, dropK (ks.zip vs) k = (dDropX k ks xs).1.zip us ∧ (dDropX k ks xs).1.length = (dDropX k ks xs).2.length ∧ Reps C ρ G (dDropX k ks xs).2 us
  | [], [], vs, r, _ => by rw [r.inv0]; exact ⟨[], rfl, by unfold dDropX; rfl, by unfold dDropX; exact .nil⟩
  | [], x :: xs, vs, r, h => by cases h
  | n :: ns, [], vs, r, h => by cases h
  | q :: ks, x :: xs, vs, r, h => by
    obtain ⟨u, us, rfl, h1, h2⟩ := r.inv
    obtain ⟨ws, e1, e2, e3⟩ := drop_zip k (ks := ks) h2 (by simpa using h)
    unfold dropK at e1 ⊢
    rw [List.zip_cons_cons, List.filter_cons]
    unfold dDropX
    by_cases e : q = k
    · rw [if_pos e]; simp [e] at e1 ⊢; exact ⟨ws, e1, e2, e3⟩
    · rw [if_neg e]; simp [e] at e1 ⊢; exact ⟨u :: ws, by rw [e1]; rfl, by simp [e2], .cons h1 e3⟩
def sDelP (o k : De) : Ds := fun Γ S => after (o Γ S) Γ fun x S1 => after (k Γ S1) Γ fun y S2 => match x with
  | .ptr q => match S2[q]?, keyD y with
    | some (.dct ks xs), some kk => if (dGet ks xs kk).isSome = true then .next Γ (S2.set q (.dct (dDropX kk ks xs).1 (dDropX kk ks xs).2)) else .stuck
    | _, _ => .stuck
  | _ => .stuck
theorem valV_some {C : Cn} {ρ : List Addr} {G : Hp} {ks : List Key} {xs : List D} {vs : List V} (r : Reps C ρ G xs vs) (hl : ks.length = xs.length) (k : Key) : (valV (ks.zip vs) k).isSome = (dGet ks xs k).isSome := by
  have z := dGet_val r hl k
  cases q : dGet ks xs k with
  | some d => rw [q] at z; obtain ⟨v, e, _⟩ := z; rw [e]; rfl
  | none => rw [q] at z; rw [z]; rfl
theorem ds_delP {k : Expr} {tpos : Pos} (ho : DE X cls W o δo) (hk : DE X cls W k ε1) : DS X cls W (.Delete [.Subscript o k tpos] pos) (sDelP δo ε1) := PS.weak (ps_ddel ho hk) fun D σ H ⟨en, Γ, S, ρ, G, s, p⟩ =>
  ⟨Γ, S, ρ, G, s.mem, post_after s p fun dx S2 ρ2 G2 H2 x m2 n2 s2 r2 p2 => ⟨Γ, S2, ρ2, G2, s2.mem, post_after s2 p2 fun dy S3 ρ3 G3 H3 y m3 n3 s3 r3 p3 => by
    cases dx with
    | ptr q =>
      simp only at p3
      split at p3
      · rename_i ks xs kk hx hkk
        split at p3
        · rename_i hz
          obtain ⟨a, vs, rfl, ha, h1, hl, rr⟩ := sto_dct m3 (Rep.mono n3.ext n3.pre _ _ r2) hx
          have ek := keyD_v hkk r3
          subst ek
          obtain ⟨us, e1, e2, e3⟩ := drop_zip kk rr hl
          obtain ⟨m4, n4⟩ := m3.poke (a := a) (o := .dK (dropK (ks.zip vs) kk)) (d' := .dct (dDropX kk ks xs).1 (dDropX kk ks xs).2) hx ha ⟨us, by rw [upd_same, e1], e2, e3⟩
          exact ⟨a, _, kk, rfl, h1, rfl, by rw [valV_some rr hl]; exact hz, p3 _ _ _ _ (s3.step m4 n4)⟩
        · exact p3.elim
      · exact p3.elim
    | _ => exact p3.elim⟩⟩
end
end DL

namespace DL
open PySem PySem.Spec PyProof.Rows L2
/-! ### methods, new instances -/
def eMeth (c : Nat) (m : Str) (F : List D → List D → Res D) (o : De) (α : Da) : De := fun Γ S => (o Γ S).bind fun x S1 => match deref S1 x with
  | .ins c' ns _ => if c' = c ∧ ns.contains m = false then (α Γ S1).bind fun ds S2 => F (x :: ds) S2 else .stuck
  | _ => .stuck
def eMake (c : Nat) (F : List D → List D → Res D) (α : Da) : De := fun Γ S => (α Γ S).bind fun ds S1 => (F (.ptr S1.length :: ds) (S1 ++ [.ins c [] []])).bind fun d S2 => if isNon d = true then .ok (.ptr S1.length) S2 else .stuck
theorem lookup_zip_none {ns : List Str} {vs : List V} {m : Str} (h : ns.contains m = false) : (ns.zip vs).lookup m = none := by
  induction ns generalizing vs with
  | nil => rfl
  | cons n r ih =>
    cases vs with
    | nil => rfl
    | cons v us =>
      rw [List.contains_cons, Bool.or_eq_false_iff] at h
      rw [List.zip_cons_cons, List.lookup_cons, h.1]
      exact ih h.2
section
variable {C : Cn} {W : WX} {F : List D → List D → Res D} {Γ : List Sl} {S : List D} {ρ : List Addr} {G H : Hp} {σ : L2.St} {Q : VK} {α : Da}
theorem exM {k : Nat} {d0 : D} {v0 : V} (hal : ALen α k) (m : Mem C Γ S ρ G H σ) (r0 : Rep C ρ G d0 v0) (p : Post C W (RS C) Γ ρ G H σ ((α Γ S).bind fun ds S2 => F (d0 :: ds) S2) Q) :
    tA C W α σ H fun vs H1 => spD C (k + 1) F (v0 :: vs) H1 Q (fun c d H2 => W c d σ H2) := by
  refine ⟨Γ, S, ρ, G, m, ?_⟩
  cases q : α Γ S with
  | exc x S1 => rw [q] at p; exact p
  | stuck => rw [q] at p; exact p
  | ok ds S1 =>
    rw [q] at p
    simp only [Res.bind_ok] at p
    intro vs ρ1 G1 H1 m1 n1 r1
    refine ⟨S1, ρ1, G1, d0 :: ds, m1.toS, .cons (r0.mono n1.ext n1.pre) r1, ?_, ?_⟩
    · rw [List.length_cons, ← r1.length, hal.le _ _ _ _ q]
    cases z : F (d0 :: ds) S1 with
    | ok d S2 => rw [z] at p; exact fun v ρ2 G2 H2 m2 n2 r2 => p v ρ2 G2 H2 (m1.step n2 m2) (n1.trans n2) r2
    | exc x S2 => rw [z] at p; exact fun c dx ρ2 G2 H2 m2 n2 r2 => p c dx ρ2 G2 H2 (m1.step n2 m2) (n1.trans n2) r2
    | stuck => rw [z] at p; exact p
/-- one more object in the store -/
theorem MemS.push {a : Addr} {d : D} (m : MemS C S ρ G H) (na : a ∉ ρ) (ga : G a = none) (r : ObAt C ρ G H a d) : MemS C (S ++ [d]) (ρ ++ [a]) G H := by
  have k : ρ <+: ρ ++ [a] := List.prefix_append _ _
  refine ⟨m.sub, fun i d h => by simp at h, fun i d h => by simp at h, fun i j d d' a h => by simp at h, fun i x h => ?_, fun b hb => ?_, by rw [List.length_append, List.length_append, m.len] <;> rfl, ?_, rfl, fun i x h => by simp at h⟩
  · by_cases hi : i < S.length
    · rw [List.getElem?_append_left hi] at h
      obtain ⟨b, hb, rb⟩ := m.sto i x h
      exact ⟨b, by rw [List.getElem?_append_left (by rw [m.len]; exact hi)]; exact hb, rb.mono .refl k fun _ q => q⟩
    · rw [List.getElem?_append_right (by omega)] at h
      have e : i = S.length := by
        have := (List.getElem?_eq_some_iff.mp h).1
        simp at this; omega
      subst e
      simp at h; subst h
      exact ⟨a, by rw [List.getElem?_append_right (by rw [m.len]; omega), m.len]; simp, r.mono .refl k fun _ q => q⟩
  · rcases List.mem_append.mp hb with z | z
    · exact m.stG b z
    · rw [List.mem_singleton] at z; subst z; exact ga
  · rw [List.nodup_append]
    exact ⟨m.nd, by simp, fun x hx y hy e => by rw [List.mem_singleton] at hy; subst hy; subst e; exact na hx⟩
end
section
variable {X : Cx} {cls : Nat → Addr} {W : WX} {k c n : Nat} {f : Addr} {fd : FuncData} {ps : List Str} {x m : Str} {p pos apos : Pos} {e o : Expr} {es : List Expr} {α : Da} {δo : De} {F : List D → List D → Res D}
theorem meth_post {Γ : List Sl} {S : List D} {ρ : List Addr} {G H : Hp} {σ : L2.St} {Q : VK} (hal : ALen α n) (mm : Mem ⟨X.K, cls⟩ Γ S ρ G H σ) (q : Post ⟨X.K, cls⟩ W (RS ⟨X.K, cls⟩) Γ ρ G H σ (eMeth c m F δo α Γ S) Q) :
    tE ⟨X.K, cls⟩ W (RS ⟨X.K, cls⟩) δo σ H fun x H1 => ∃ a dx fs, x = .ref a ∧ H1 a = some (.ins (cls (c + 3)) dx fs) ∧ fs.lookup m = none ∧ tA ⟨X.K, cls⟩ W α σ H1 fun vs H2 => spD ⟨X.K, cls⟩ (n + 1) F (x :: vs) H2 Q (fun c d H2 => W c d σ H2) := by
  unfold eMeth at q
  refine ⟨Γ, S, ρ, G, mm, (Post.seq back_RS q).mono fun x H1 ⟨dx, S1, ρ1, G1, m1, n1, r1, p1⟩ => ?_⟩
  have rt := m1.read (H0 := H1) (.inl r1)
  split at p1
  · rename_i c' ns xs ed
    rw [ed] at rt
    obtain ⟨b, dxx, vs, rfl, h1, hl, rr⟩ := rt
    split at p1
    · rename_i hc
      obtain ⟨hc, hn⟩ := hc
      subst hc
      exact ⟨b, dxx, _, rfl, h1, lookup_zip_none hn, exM hal m1 r1 p1⟩
    · exact p1.elim
  · exact p1.elim
theorem de_meth {pl : Sem Bool} (Cl : Cls X.K (cls (c + 3))) (hm : Meth X.K (cls (c + 3)) m f) (Fn : FnG X.prog X.w X.K X.mg X.base k f fd ps (spD ⟨X.K, cls⟩ (n + 1) F)) (tk : Takes X W) (rm : RoomG k X.A) (bd : Binds X.K fd ps []) (ho : DE X cls W o δo) (ha : DA X cls W (e :: es) α) (hal : ALen α n)
    (hst : starEach (e :: es) X.env = (false, eval e X.env) :: starEach es X.env := by rfl) (hpl : (backTo pos (starEach es X.env)).any (·.1) = false := by rfl)
    (ht : eval (.Call (.Attribute o m apos) (e :: es) [] pos) X.env = (do let ov ← eval o X.env; standAt apos.atName; let (f, first) ← holding [ov] (getMethod ov m pl); callWith pos f first (backTo pos (starEach (e :: es) X.env)) (backToKw pos (keywordEach [] X.env))) := by rfl) :
    DE X cls W (.Call (.Attribute o m apos) (e :: es) [] pos) (eMeth c m F δo α) := ⟨fun pins s σ H Q I ⟨Γ, S, ρ, G, mm, q⟩ => by
  refine PySem.W.methodCall_KW (pl := pl) (thn (ho.run pins s σ H _ I (meth_post hal mm q)) fun u s1 ⟨x, H1, I1, rx, a, dx, fs, ex, ea, l, q⟩ => ?_) ht
  subst ex; obtain rfl : u = Value.ref a := rx
  refine getmeth_ok I1 ea Cl hm l ?_
  refine PySem.W.callWith_K (first := [.ref a]) (h₀ := X.base) I.ok.mod.kin hm.kp (thn (ha.run pos pins s1 σ H1 _ I1 q) fun us s2 ⟨vs, H2, I2, r, q2⟩ => ⟨I2.kIn, ?_⟩) hst hpl
  exact goesG (us := .ref a :: us) (vs := .ref a :: vs) Fn rm bd (passAt tk σ) I2 (.cons rfl r) q2⟩
theorem de_meth0 {pl : Sem Bool} (Cl : Cls X.K (cls (c + 3))) (hm : Meth X.K (cls (c + 3)) m f) (Fn : FnG X.prog X.w X.K X.mg X.base k f fd ps (spD ⟨X.K, cls⟩ (0 + 1) F)) (tk : Takes X W) (rm : RoomG k X.A) (bd : Binds X.K fd ps []) (ho : DE X cls W o δo)
    (ht : eval (.Call (.Attribute o m apos) [] [] pos) X.env = (do let ov ← eval o X.env; standAt apos.atName; let (f, first) ← holding [ov] (getMethod ov m pl); callWith pos f first (backTo pos (starEach [] X.env)) (backToKw pos (keywordEach [] X.env))) := by rfl) :
    DE X cls W (.Call (.Attribute o m apos) [] [] pos) (eMeth c m F δo aNil) := ⟨fun pins s σ H Q I ⟨Γ, S, ρ, G, mm, q⟩ => by
  refine PySem.W.methodCall_KW (pl := pl) (thn (ho.run pins s σ H _ I (meth_post ALen.nil mm q)) fun u s1 ⟨x, H1, I1, rx, a, dx, fs, ex, ea, l, q⟩ => ?_) ht
  subst ex; obtain rfl : u = Value.ref a := rx
  refine getmeth_ok I1 ea Cl hm l ?_
  obtain ⟨Γ1, S1, ρ1, G1, m1, p1⟩ := q
  exact PySem.W.callWith_K0 (first := [.ref a]) I1.kIn hm.kp (goesG (us := [.ref a]) (vs := [.ref a]) Fn rm bd (passAt tk σ) I1 (.cons rfl .nil) (p1 [] ρ1 G1 H1 m1 .refl .nil))⟩
theorem RoomG.make {A : Around} (r : RoomG (k + 1) A) (C : Addr) (us : List Value) (kw : List (Str × Value)) : RoomG k (A.under (.builtin "type.__call__" ⟨.ref C :: us, kw⟩)) := ⟨r.toRoom.make C us kw, by
  have h := r.gd
  simp [Around.under, Code.guards, Code.isGuard, guardIds, pushGuards, h]⟩
theorem new_go {pins : List (Addr × Obj)} {σ : L2.St} {H : Hp} {s : Shared} {Q : VK} {E : XK} {us : List Value} {vs : List V} {C : Addr} {sp : Sp} (M : Mk X.K C f) (Fn : FnG X.prog X.w X.K X.mg X.base k f fd ps sp) (rm : RoomG (k + 1) X.A) (bd : Binds X.K fd ps [])
    (pa : ∀ pins H s er s2, Inv X pins σ H s → L2.CX X.prog X.w X.stack H s E er s2 → X.xe er s2) (I : Inv X pins σ H s) (rv : Vals vs us)
    (h : ∀ x dx, H x = none → H dx = none → dx ≠ x → sp (.ref x :: vs) (upd (upd H dx (.own x)) x (.ins C dx [])) (fun v H2 => v = .non ∧ Q (.ref x) H2) E) :
    wpAny (model X.prog X.w) X.A (call (.ref C) us) (EP X pins σ Q) X.xe s := by
  have hq := h (s.heap.objs.size + 1) s.heap.objs.size (I.hok.fresh (Nat.le_succ _)) (I.hok.fresh (Nat.le_refl _)) (Nat.ne_of_lt (Nat.lt_succ_self _))
  have J := Inv.made (C := C) I
  have r2 : Vals (V.ref (s.heap.objs.size + 1) :: vs) (Value.ref (s.heap.objs.size + 1) :: us) := .cons rfl rv
  have b2 := bd _ (Value.ref (s.heap.objs.size + 1) :: us) J.kIn (by rw [List.append_nil, ← r2.length]; exact Fn.lng _ _ _ _ hq)
  rw [List.append_nil] at b2
  refine wpAny_call (make_map (f := f) I.kIn M.makes M.init (beq_iff_eq.mp M.fn) (codeAny_mono (Fn.goes _ X.stack _ _ ⟨Value.ref (s.heap.objs.size + 1) :: us, []⟩ _ _ _ E (rm.make C us []) (J.env0.make C us []) b2 r2 hq) ?_))
  intro r s2 hq'
  match r, hq' with
  | .error er, hq' => exact pa pins _ _ er s2 J hq'
  | .ok .next, hq' => exact hq'.elim
  | .ok .brk, hq' => exact hq'.elim
  | .ok .cont, hq' => exact hq'.elim
  | .ok (.ret u), hq' =>
    obtain ⟨v, H', I3, rv3, ev, q3⟩ := J.after hq'
    subst ev
    exact ⟨rv3, ⟨V.ref (s.heap.objs.size + 1), H', I3, rfl, q3⟩⟩
theorem make_post {Γ : List Sl} {S : List D} {ρ : List Addr} {G H : Hp} {σ : L2.St} {Q : VK} (hal : ALen α n) (mm : Mem ⟨X.K, cls⟩ Γ S ρ G H σ) (q : Post ⟨X.K, cls⟩ W (RS ⟨X.K, cls⟩) Γ ρ G H σ (eMake c F α Γ S) Q) :
    tA ⟨X.K, cls⟩ W α σ H fun vs H1 => ∀ x dx, H1 x = none → H1 dx = none → dx ≠ x → spD ⟨X.K, cls⟩ (n + 1) F (.ref x :: vs) (upd (upd H1 dx (.own x)) x (.ins (cls (c + 3)) dx [])) (fun v H2 => v = .non ∧ Q (.ref x) H2) (fun c d H2 => W c d σ H2) := by
  refine ⟨Γ, S, ρ, G, mm, ?_⟩
  unfold eMake at q
  cases z : α Γ S with
  | exc x S1 => rw [z] at q; exact q
  | stuck => rw [z] at q; exact q
  | ok ds S1 =>
    rw [z] at q
    simp only [Res.bind_ok] at q
    intro vs ρ1 G1 H1 m1 n1 r1 x dx hx hdx hne
    obtain ⟨m2, n2, _, _⟩ := m1.new (o := .own x) hdx
    have hx2 : upd H1 dx (.own x) x = none := by rw [upd_ne (Ne.symm hne)]; exact hx
    obtain ⟨m3, n3, nx3, gx3⟩ := m2.new (o := .ins (cls (c + 3)) dx []) hx2
    have m4 : MemS ⟨X.K, cls⟩ (S1 ++ [.ins c [] []]) (ρ1 ++ [x]) G1 (upd (upd H1 dx (.own x)) x (.ins (cls (c + 3)) dx [])) := m3.toS.push nx3 gx3 ⟨dx, [], upd_same, rfl, .nil⟩
    have n23 := n2.trans n3
    have n4 : Nx ρ1 G1 H1 (ρ1 ++ [x]) G1 (upd (upd H1 dx (.own x)) x (.ins (cls (c + 3)) dx [])) := ⟨List.prefix_append _ _, .refl, fun _ _ h => .inl h, n23.keep, n23.live, fun a ha => by
      rcases List.mem_append.mp ha with y | y
      · exact .inl y
      · rw [List.mem_singleton] at y; subst y; exact .inr hx⟩
    have hk : (ρ1 ++ [x])[S1.length]? = some x := by rw [← m1.len, List.getElem?_append_right (Nat.le_refl _)]; simp
    refine ⟨_, _, _, .ptr S1.length :: ds, m4, .cons (rep_ptr.mpr ⟨x, hk, rfl⟩) (r1.mono n4.ext n4.pre _), ?_, ?_⟩
    · rw [List.length_cons, ← r1.length, hal.le _ _ _ _ z]
    cases w : F (.ptr S1.length :: ds) (S1 ++ [.ins c [] []]) with
    | stuck => rw [w] at q; exact q
    | exc e S2 => rw [w] at q; exact fun c dx ρ2 G2 H2 m5 n5 r5 => q c dx ρ2 G2 H2 (m1.step (n4.trans n5) m5) ((n1.trans n4).trans n5) r5
    | ok d S2 =>
      rw [w] at q
      simp only [Res.bind_ok] at q
      intro v ρ2 G2 H2 m5 n5 r5
      split at q
      · rename_i hd
        cases d <;> first | (cases hd; done) | skip
        have ev := rep_non.mp r5
        refine ⟨ev, q (.ref x) ρ2 G2 H2 (m1.step (n4.trans n5) m5) ((n1.trans n4).trans n5) (rep_ptr.mpr ⟨x, ?_, rfl⟩)⟩
        obtain ⟨t, ht⟩ := n5.pre
        rw [← ht, List.getElem?_append_left (by rw [List.length_append, m1.len]; simp)]
        exact hk
      · exact q.elim
theorem de_make (M : Mk X.K (cls (c + 3)) f) (Fn : FnG X.prog X.w X.K X.mg X.base k f fd ps (spD ⟨X.K, cls⟩ (n + 1) F)) (tk : Takes X W) (rm : RoomG (k + 1) X.A) (hg : Gl X x) (hm : X.mg x = some (.ref (cls (c + 3)))) (bd : Binds X.K fd ps []) (ha : DA X cls W (e :: es) α) (hal : ALen α n)
    (hdb : (x == ("__debug__" : Str)) = false := by decide) (he : starEach (e :: es) X.env = (false, eval e X.env) :: starEach es X.env := by rfl) (hpl : (backTo pos (starEach es X.env)).any (·.1) = false := by rfl) : DE X cls W (.Call (.Name x p) (e :: es) [] pos) (eMake c F α) := ⟨fun pins s σ H Q I ⟨Γ, S, ρ, G, mm, q⟩ => by
  refine wpAny_Call_Name_kw (ld_glob I hg hm ?_ hdb)
  exact PySem.W.callWith_K (h₀ := X.base) I.ok.mod.kin M.kp (thn (ha.run pos pins s σ H _ I (make_post hal mm q)) fun us s1 ⟨vs, H1, I1, r, q2⟩ => ⟨I1.kIn, new_go M Fn rm bd (passAt tk σ) I1 r q2⟩) he hpl⟩
theorem de_make0 (M : Mk X.K (cls (c + 3)) f) (Fn : FnG X.prog X.w X.K X.mg X.base k f fd ps (spD ⟨X.K, cls⟩ (0 + 1) F)) (tk : Takes X W) (rm : RoomG (k + 1) X.A) (hg : Gl X x) (hm : X.mg x = some (.ref (cls (c + 3)))) (bd : Binds X.K fd ps [])
    (hdb : (x == ("__debug__" : Str)) = false := by decide) : DE X cls W (.Call (.Name x p) [] [] pos) (eMake c F aNil) := ⟨fun pins s σ H Q I ⟨Γ, S, ρ, G, mm, q⟩ => by
  refine wpAny_Call_Name_kw (ld_glob I hg hm ?_ hdb)
  obtain ⟨Γ1, S1, ρ1, G1, m1, p1⟩ := make_post ALen.nil mm q
  exact PySem.W.callWith_K0 I.kIn M.kp (new_go (us := []) (vs := []) M Fn rm bd (passAt tk σ) I .nil (p1 [] ρ1 G1 H m1 .refl .nil))⟩
end
end DL

namespace DL
open PySem PySem.Spec PyProof.Rows L2
/-! ### several except clauses with names -/
abbrev TsA := Addr → Value → Option Addr → TS
def behind (i : Nat) (Dn : Ends) : Ends := { nx := fun σ H => Dn.nx (σ.set i none) H, rt := Dn.rt, bk := fun σ H => Dn.bk (σ.set i none) H, ct := fun σ H => Dn.ct (σ.set i none) H }
def wNm (K : PySem.W.Frag) (Wo : WX) (Dn : Ends) : List (Value × Nat × TsA) → WX
  | [] => Wo
  | (c, i, ts) :: r => fun cls d σ H => ∃ b, PySem.W.exmOne K cls c = some b ∧ (b = true → ∀ a, H a = none → ts a cls d (behind i Dn) (σ.set i (some (.ref a))) H) ∧ (b = false → wNm K Wo Dn r cls d σ H)
inductive HdN (X : Cx) : List ExceptHandler → List (Value × Nat × TsA) → Prop
  | nil : HdN X [] []
  | cons {x n : Str} {c : Value} {i : Nat} {ts : TsA} {b₀ : Stmt} {suite : List Stmt} {np pp : Pos} {hds : List ExceptHandler} {l : List (Value × Nat × TsA)} (hc : Names X x c) (hi : X.N[i]? = some n) (hln : X.env.kindOf n = some .local)
      (hsu : ∀ (a : Addr) (oe : Obj) (cv : Value) (d : Option Addr) (pn : List (Addr × Obj)), Zc cv d oe → (∃ vs, oe.data = .fields vs) → PSs (X.suite a ((a, oe) :: pn)) (b₀ :: suite) (ts a cv d)) (r : HdN X hds l) : HdN X (.ExceptHandler (some (.Name x np)) (some n) (b₀ :: suite) pp :: hds) ((c, i, ts) :: l)
section
variable {X : Cx} {body : List Stmt} {g₀ : ExceptHandler} {hds : List ExceptHandler} {l : List (Value × Nat × TsA)} {pos : Pos} {tb : WX → TS} {Wo : WX}
theorem ps_try_named (sk : X.stack = X.env :: X.outer) (fr : X.env.frame = some X.env.locals) (nN : X.N.Nodup) (tk : Takes X Wo) (bd : ∀ (W : WX) (pn : List (Addr × Obj)) (xe : Value → Shared → Prop), Takes (X.tr pn xe) W → PassesOwn (model X.prog X.w) X.A X.env xe → PSs (X.tr pn xe) body (tb W))
    (hn : HdN X (g₀ :: hds) l) : PS X (.Try body (g₀ :: hds) [] [] pos) (fun Dn σ H => tb (wNm X.K Wo Dn l) Dn σ H) := ⟨fun pins s σ H Dn I want => by
  have ok := I.ok
  have afr : X.A.frames = some (X.env :: X.outer) := by rw [ok.frames, sk]
  refine wpAny_Try_except (wpAny_mono ((bd (wNm X.K Wo Dn l) (X.pn ++ pins) (fun e sa => wpAny (model X.prog X.w) X.A (noteFrame e X.env) (fun _ sb => wpAny (model X.prog X.w) X.A (setFlight e none) (fun _ sc => wpAny (model X.prog X.w) X.A (handleBy e X.env (g₀ :: hds)) (SP X pins Dn) X.xe sc) X.xe sb) X.xe sa)
    (fun u t xx => ?_) PassesOwn.looking).run [] s σ H Dn (I.toTry _) want) (fun f t1 hsp => ?_) (fun e t1 he => he))
  · obtain ⟨a, B, sI, pZ, σZ, HZ, cv, d, rfl, JT, nb, up, sky, na, os, ag, w⟩ := xx
    have J0 : Inv X pins σZ HZ sI := JT.ofTry ok
    have skyE : Sky B (X.env :: X.outer) a (Zc cv d) X.env.locals t.heap := by rw [← sk]; exact sky
    change wpAny (model X.prog X.w) X.A (noteFrame (.ref a) X.env) _ _ _
    refine Sky.land Zc.steady afr fr skyE fun hA flA upA => ?_
    have JA : Inv X pins σZ HZ { t with heap := hA } := J0.landed nb flA.1 (up.trans upA) os ag
    obtain ⟨oA, vA, eA, zA, dA⟩ := flA.there
    have offF : a ∉ frs (X.env :: X.outer) := fun hm => by
      obtain ⟨_, o1, e1, n1⟩ := flA.2.2.1.mem hm
      rw [eA] at e1; cases e1; exact n1 _ dA
    have offL : a ≠ X.env.locals := fun z => offF (List.mem_filterMap.mpr ⟨X.env, List.mem_cons_self, by rw [fr, z]⟩)
    have offO : a ∉ X.fs := fun hm => by
      obtain ⟨e1, m1, q1⟩ := List.mem_filterMap.mp hm
      exact offF (List.mem_filterMap.mpr ⟨e1, List.mem_cons_of_mem _ m1, q1⟩)
    have SA := JA.suite eA dA na offL offO
    have each : ∀ {gs : List ExceptHandler} {ls : List (Value × Nat × TsA)}, HdN X gs ls → wNm X.K Wo Dn ls cv d σZ HZ → wpAny (model X.prog X.w) X.A (handleBy (.ref a) X.env gs) (SP X pins Dn) X.xe { t with heap := hA } := by
      intro gs ls hk
      induction hk with
      | nil =>
        intro wz
        refine wpAny_handleBy_nil ?_
        obtain ⟨q1, q2, q3, oX, vX, TX, oTX, tsX, eX, zX, dX, fX, rX⟩ := id flA
        unfold PySem.passOn
        refine wpAny_bind (wpAny_field eX dX fX ?_)
        rw [if_neg (show ¬ ((Value.ref TX == Value.none) = true) by simp)]
        have away : wpAny (model X.prog X.w) X.A (setFlight (.ref a) X.env.frame) (fun _ sd => wpAny (model X.prog X.w) X.A (throw (.ref a) : Sem Flow) (SP X pins Dn) X.xe sd) X.xe { t with heap := hA } := by
          rw [fr]
          exact HandSPX.setFlight_upZ flA fun hB hhB upB => wpAny_throw (tk _ _ ⟨a, B, sI, pins, σZ, HZ, cv, d, rfl, J0, nb, (up.trans upA).trans upB, .inr (.inr (by rw [sk]; exact hhB)), na, os, ag, wz⟩)
        first | exact wpAny_bind (wpAny_pure (wpAny_bind away)) | exact wpAny_bind away
      | @cons x n c i ts b₀ suite np pp hds2 l2 hc hi hln hsu r ih =>
        rintro ⟨b, isB, yes, no⟩
        refine wpAny_handleBy_cons (codeAny_handlers_test ?_) (by intro q; cases q)
        have LK : PySem.W.Looks (model X.prog X.w) hA (typeOf (.ref a)) cv := fun A1 Q1 E1 s1 k1 q1 => wpAny_typeOf_ref (k1 _ _ eA) (by rw [zA.1]; exact q1)
        have LM := PySem.W.exm_one (M := model X.prog X.w) (JA.kIn) LK isB
        have look : ∀ {Q1 : Value → Shared → Prop} {E1 : Value → Shared → Prop}, Q1 c { t with heap := hA } → wpAny (model X.prog X.w) (X.A.mark (some (.ref a))) (eval (.Name x np) X.env) Q1 E1 { t with heap := hA } := fun {Q1 E1} q1 => by
          obtain ⟨hg, hdbg, hm | ⟨hm, hv, hnn⟩⟩ := hc
          · exact ld_glob (X := X.suite a ((a, oA) :: (X.pn ++ pins))) SA hg hm q1 hdbg
          · exact ld_blt (X := X.suite a ((a, oA) :: (X.pn ++ pins))) SA hg hm hv q1 hnn hdbg
        refine look (LM.here ?_)
        cases b with
        | false => exact ih (no rfl)
        | true =>
          refine codeAny_handlers_suite_as (HandSPX.lands_againZ flA fun hB flB upB => ?_)
          have JB : Inv X pins σZ HZ { t with heap := hB } := J0.landed nb flB.1 ((up.trans upA).trans upB) os ag
          obtain ⟨oB, vB, eB, zB, dB⟩ := flB.there
          have SB := JB.suite eB dB na offL offO
          refine store_ok (X := X.suite a ((a, oB) :: (X.pn ++ pins))) (v := .ref a) SB nN hi (.inl hln) rfl (fun s5 S5 => wpAny_mono ((hsu a oB cv d (X.pn ++ pins) zB ⟨_, dB⟩).run [] s5 _ HZ _ S5 (yes rfl a na)) (fun f s6 hq => ?_) (fun _ _ z => False.elim z)) (.inr hln)
          have last : ∀ {σ6 : L2.St} {H6 : Hp} {Q1 : Shared → Prop}, Inv (X.suite a ((a, oB) :: (X.pn ++ pins))) [] σ6 H6 s6 → (∀ s7, Inv X pins (σ6.set i none) H6 s7 → Q1 s7) → wpAny (model X.prog X.w) X.A (do bindName X.env n .none; unbindBehindTheSuite X.env n pp) (fun _ s7 => Q1 s7) X.xe s6 := fun {σ6 H6 Q1} S6 q1 => gone_ok (S6.unsuite ok) nN hi hln q1
          cases f with
          | next => obtain ⟨_, _, S6, q6⟩ := hq; exact last S6 fun _ J7 => ⟨_, _, J7, q6⟩
          | brk => obtain ⟨_, _, S6, q6⟩ := hq; exact last S6 fun _ J7 => ⟨_, _, J7, q6⟩
          | cont => obtain ⟨_, _, S6, q6⟩ := hq; exact last S6 fun _ J7 => ⟨_, _, J7, q6⟩
          | ret u => obtain ⟨_, _, _, S6, r6, q6⟩ := hq; exact last S6 fun _ J7 => ⟨_, _, _, J7, r6, q6⟩
    exact each hn w
  · cases f with
    | next => obtain ⟨σ', H', J', q⟩ := hsp; exact wpAny_execs_nil ⟨σ', H', J'.ofTry ok, q⟩
    | brk => obtain ⟨σ', H', J', q⟩ := hsp; exact ⟨σ', H', J'.ofTry ok, q⟩
    | cont => obtain ⟨σ', H', J', q⟩ := hsp; exact ⟨σ', H', J'.ofTry ok, q⟩
    | ret u => obtain ⟨v, σ', H', J', r, q⟩ := hsp; exact ⟨v, σ', H', J'.ofTry ok, r, q⟩⟩
end
/-- the clauses, one behind the other -/
def catchD : List (Nat × (Nat → Option Bool) × Ds) → Exn → List Sl → List D → Out
  | [], e, Γ, S => .exc e Γ S
  | (i, f, h) :: r, e, Γ, S => match f e.c with
    | some true => if noX Γ then unx (some i) (h (Γ.set i (.xcp e)) S) else .stuck
    | some false => catchD r e Γ S
    | none => .stuck
def sTryN (hs : List (Nat × (Nat → Option Bool) × Ds)) (b : Ds) : Ds := fun Γ S => match b Γ S with
  | .exc e Γ1 S1 => catchD hs e Γ1 S1
  | o => o
inductive CatchOk (X : Cx) (cls : Nat → Addr) : List ExceptHandler → List (Nat × (Nat → Option Bool) × Ds) → List (Value × Nat × TsA) → Prop
  | nil : CatchOk X cls [] [] []
  | cons {x n : Str} {CX : Addr} {i : Nat} {f : Nat → Option Bool} {δh : Ds} {b₀ : Stmt} {suite : List Stmt} {np pp : Pos} {hds : List ExceptHandler} {l : List (Nat × (Nat → Option Bool) × Ds)} {ll : List (Value × Nat × TsA)}
      (hi : X.N[i]? = some n) (hln : X.env.kindOf n = some .local) (hc : Names X x (.ref CX)) (hf : ∀ c b, f c = some b → PySem.W.exmOne X.K (.ref (cls (c + 3))) (.ref CX) = some b)
      (hsu : ∀ (a : Addr) (oe : Obj) (pn : List (Addr × Obj)) (cls' : Nat → Addr), Su cls cls' a oe → DSs (X.suite a ((a, oe) :: pn)) cls' W0 (b₀ :: suite) δh) (r : CatchOk X cls hds l ll) :
      CatchOk X cls (.ExceptHandler (some (.Name x np)) (some n) (b₀ :: suite) pp :: hds) ((i, f, δh) :: l) ((.ref CX, i, tsD X cls δh) :: ll)
theorem CatchOk.hd {X : Cx} {cls : Nat → Addr} {hds : List ExceptHandler} {l : List (Nat × (Nat → Option Bool) × Ds)} {ll : List (Value × Nat × TsA)} (h : CatchOk X cls hds l ll) : HdN X hds ll := by
  induction h with
  | nil => exact .nil
  | cons hi hln hc hf hsu r ih => exact .cons hc hi hln (fun a oe clsv d pn hz hf => PSs.given fun e => hsu a oe pn _ (su_of hz hf e)) ih
section
variable {X : Cx} {cls : Nat → Addr} {W : WX} {body : List Stmt} {g₀ : ExceptHandler} {hds : List ExceptHandler} {l : List (Nat × (Nat → Option Bool) × Ds)} {ll : List (Value × Nat × TsA)} {pos : Pos} {δb : Ds}
theorem catch_ok {en : Ent} {Dn : Ends} {e : Exn} {S1 : List D} {ρ1 : List Addr} {G1 H1 : Hp} {σ1 : L2.St} {clsv : Value} {dx : Option Addr} (h : CatchOk X cls hds l ll) : ∀ {Γ1 : List Sl}, SI ⟨X.K, cls⟩ en Γ1 S1 ρ1 G1 H1 σ1 → ExRep ⟨X.K, cls⟩ ρ1 G1 H1 e clsv dx → PostS ⟨X.K, cls⟩ W en Dn (catchD l e Γ1 S1) → wNm X.K W Dn ll clsv dx σ1 H1 := by
  induction h with
  | nil => exact fun s1 er p => p clsv dx ρ1 G1 H1 σ1 s1 er
  | @cons x n CX i f δh b₀ suite np pp hds l ll hi hln hc hf hsu r ih =>
    intro Γ1 s1 er p
    have ec : clsv = .ref (cls (e.c + 3)) := er.1
    unfold catchD at p
    cases hfe : f e.c with
    | none => rw [hfe] at p; exact p.elim
    | some b =>
      rw [hfe] at p
      refine ⟨b, by rw [ec]; exact hf _ _ hfe, fun hbt a na => ?_, fun hbf => ?_⟩
      · subst hbt
        simp only at p
        split at p
        · rename_i hx
          obtain ⟨z1, z2⟩ := xok_of (X := X) (a := a) er
          have s2 := (SI.re (C := ⟨X.K, cls⟩) (C' := ⟨X.K, xcls cls a dx clsv⟩) rfl (fun n => rfl) hx s1).setx i z2
          exact ⟨z1, en, _, S1, ρ1, G1, s2, try_core (C := ⟨X.K, cls⟩) (C' := ⟨X.K, xcls cls a dx clsv⟩) (oi := some i) rfl (fun n => rfl) (fun _ _ _ _ _ _ s => s.unset i) p⟩
        · exact p.elim
      · subst hbf
        exact ih s1 er p
theorem ds_try_named (sk : X.stack = X.env :: X.outer) (fr : X.env.frame = some X.env.locals) (nN : X.N.Nodup) (tk : Takes X W) (ck : CatchOk X cls (g₀ :: hds) l ll)
    (hb : ∀ (W : WX) (pn : List (Addr × Obj)) (xe : Value → Shared → Prop), Takes (X.tr pn xe) W → PassesOwn (model X.prog X.w) X.A X.env xe → DSs (X.tr pn xe) cls W body δb) : DS X cls W (.Try body (g₀ :: hds) [] [] pos) (sTryN l δb) :=
  PS.weak (ps_try_named (tb := fun W => tS ⟨X.K, cls⟩ W δb) sk fr nN tk hb ck.hd) fun Dn σ H ⟨en, Γ, S, ρ, G, s, p⟩ => ⟨en, Γ, S, ρ, G, s, by
    unfold sTryN at p
    cases q : δb Γ S with
    | exc e Γ1 S1 => rw [q] at p; exact fun clsv dx ρ1 G1 H1 σ1 s1 er => catch_ok ck s1 er p
    | next Γ1 S1 => rw [q] at p; exact p
    | brk Γ1 S1 => rw [q] at p; exact p
    | cont Γ1 S1 => rw [q] at p; exact p
    | ret d S1 => rw [q] at p; exact p
    | stuck => rw [q] at p; exact p⟩
end
end DL

namespace DL
open PySem PySem.Spec PyProof.Rows L2
/-! ### x in d, d a dict or not -/
def cInK (a b : D) : Option D := match keyD a, b with
  | some q, .dct ks xs => some (.bl (dGet ks xs q).isSome)
  | _, _ => none
def cNotInK (a b : D) : Option D := match keyD a, b with
  | some q, .dct ks xs => some (.bl (!(dGet ks xs q).isSome))
  | _, _ => none
def cInA (a b : D) : Option D := if isDct b = true then cInK a b else cIn a b
def cNotInA (a b : D) : Option D := if isDct b = true then cNotInK a b else cNotIn a b
theorem keyD_rt {C : Cn} {ρ : List Addr} {G H : Hp} {d : D} {k : Key} {v : V} (h : keyD d = some k) (r : RT C ρ G H d v) : v = kV k := by
  cases d <;> try cases h
  · rw [rt_int] at r; subst r; rfl
  · rw [rt_str] at r; subst r; rfl
theorem isSome_of {C : Cn} {ρ : List Addr} {G : Hp} {ks : List Key} {xs : List D} {q : Key} {o : Option V} (k : match dGet ks xs q with
    | some d => ∃ v, o = some v ∧ Rep C ρ G d v
    | none => o = none) : o.isSome = (dGet ks xs q).isSome := by
  cases z : dGet ks xs q with
  | some d => rw [z] at k; obtain ⟨v, rfl, _⟩ := k; rfl
  | none => rw [z] at k; rw [k]; rfl
theorem ok_inK {C : Cn} : R2Ok C (RS C) (fun x y H Q => ∃ a o, y = .ref a ∧ DGet H a x o ∧ Q (.bl o.isSome) H) cInK := fun S ρ G H x y d dx dy Q m rx ry e q => by
  unfold cInK at e
  split at e
  · rename_i kk ks xs hk
    cases e
    obtain ⟨a, vs, rfl, h1, hl, rr⟩ := ry
    obtain ⟨o, g, k⟩ := dget_rt h1 hl rr kk
    have ex := keyD_rt hk rx
    subst ex
    exact ⟨a, o, rfl, g, by rw [isSome_of k]; exact q _ _ _ _ m .refl (rep_bl.mpr rfl)⟩
  · cases e
theorem ok_notInK {C : Cn} : R2Ok C (RS C) (fun x y H Q => ∃ a o, y = .ref a ∧ DGet H a x o ∧ Q (.bl (!o.isSome)) H) cNotInK := fun S ρ G H x y d dx dy Q m rx ry e q => by
  unfold cNotInK at e
  split at e
  · rename_i kk ks xs hk
    cases e
    obtain ⟨a, vs, rfl, h1, hl, rr⟩ := ry
    obtain ⟨o, g, k⟩ := dget_rt h1 hl rr kk
    have ex := keyD_rt hk rx
    subst ex
    exact ⟨a, o, rfl, g, by rw [isSome_of k]; exact q _ _ _ _ m .refl (rep_bl.mpr rfl)⟩
  · cases e
section
variable {X : Cx} {cls : Nat → Addr} {W : WX} {a b e o : Expr} {δa δb δo ε ε1 ε2 : De} {pos pos' p apos cpos : Pos}
theorem op_din (hu : X.A.units + 1 < cLine) : OpR X (compareOp .In) (fun x y H Q => ∃ a o, y = .ref a ∧ DGet H a x o ∧ Q (.bl o.isSome) H) := by
  intro pins s σ H x y v u Q I rx ry h
  obtain ⟨b, o, rfl, g, q⟩ := h
  cases ry
  exact d_in hu I g rx fun s3 I3 => ⟨.bl o.isSome, H, I3, rfl, q⟩
theorem op_dnotin (hu : X.A.units + 1 < cLine) : OpR X (compareOp .NotIn) (fun x y H Q => ∃ a o, y = .ref a ∧ DGet H a x o ∧ Q (.bl (!o.isSome)) H) := by
  intro pins s σ H x y v u Q I rx ry h
  obtain ⟨b, o, rfl, g, q⟩ := h
  cases ry
  exact d_notIn hu I g rx fun s3 I3 => ⟨.bl (!o.isSome), H, I3, rfl, q⟩
theorem cInA_or : ∀ a b d, cInA a b = some d → cIn a b = some d ∨ cInK a b = some d := fun a b d h => by
  unfold cInA at h; split at h
  · exact .inr h
  · exact .inl h
theorem cNotInA_or : ∀ a b d, cNotInA a b = some d → cNotIn a b = some d ∨ cNotInK a b = some d := fun a b d h => by
  unfold cNotInA at h; split at h
  · exact .inr h
  · exact .inl h
theorem dt_inA (hu : X.A.units + 1 < cLine) (ha : DO X cls W a δa) (hb : DO X cls W b δb) (hm : behindInMarks .In b = false) : DT X cls W (.Compare a [.In] [b] pos) (tB (eOp cInA δa δb)) := dt_cmp (or_in.or (op_din hu)) (ok_in.or ok_inK cInA_or) ha hb hm
theorem dt_notInA (hu : X.A.units + 1 < cLine) (ha : DO X cls W a δa) (hb : DO X cls W b δb) (hm : behindInMarks .NotIn b = false) : DT X cls W (.Compare a [.NotIn] [b] pos) (tB (eOp cNotInA δa δb)) := dt_cmp (or_notIn.or (op_dnotin hu)) (ok_notIn.or ok_notInK cNotInA_or) ha hb hm
theorem de_inA (hu : X.A.units + 1 < cLine) (ha : DO X cls W a δa) (hb : DO X cls W b δb) (hm : behindInMarks .In b = false) : DE X cls W (.Compare a [.In] [b] pos) (eOp cInA δa δb) := de_cmp (or_in.or (op_din hu)) (ok_in.or ok_inK cInA_or) ha hb hm
theorem de_notInA (hu : X.A.units + 1 < cLine) (ha : DO X cls W a δa) (hb : DO X cls W b δb) (hm : behindInMarks .NotIn b = false) : DE X cls W (.Compare a [.NotIn] [b] pos) (eOp cNotInA δa δb) := de_cmp (or_notIn.or (op_dnotin hu)) (ok_notIn.or ok_notInK cNotInA_or) ha hb hm
/-! ### list(d), dict(d) -/
def dListA (d : D) : Option D := match d with
  | .dct ks _ => some (.lst (ks.map keyK))
  | d => dList d
theorem keys_rep {C : Cn} {ρ : List Addr} {G : Hp} : ∀ ks : List Key, Reps C ρ G (ks.map keyK) (ks.map kV)
  | [] => .nil
  | k :: ks => .cons (keyK_rep k) (keys_rep ks)
theorem rc_listA {C : Cn} : RC1 C (RF C) (fun xs H Q => (∃ p ys, xs = [.ref p] ∧ (SqL C.K H p ys ∨ SqT C.K H p ys) ∧ ∀ l, H l = none → Q (.ref l) (upd H l (.lst ys))) ∨ ∃ (a : Addr) (kvs : List (Key × V)), xs = [.ref a] ∧ Rd H a (.dK kvs) ∧ ∀ p, H p = none → Q (.ref p) (upd H p (.lst (kvs.map fun kv => kV kv.1)))) dListA := fun S ρ G H x d dx Q m rx e q => by
  unfold dListA at e
  split at e
  · rename_i ks xs
    cases e
    obtain ⟨a, vs, rfl, h1, hl, rr⟩ := rx
    refine .inr ⟨a, _, rfl, h1, fun l hlp => ?_⟩
    have e2 : ((ks.zip vs).map fun kv => kV kv.1) = ks.map kV := by
      have : (fun kv : Key × V => kV kv.1) = kV ∘ Prod.fst := rfl
      rw [this, ← List.map_map, List.map_fst_zip (by rw [hl, rr.length]; exact Nat.le_refl _)]
    rw [e2]
    obtain ⟨m2, n2, r⟩ := x_new m (keys_rep (C := C) (ρ := ρ) (G := G) ks) hlp
    exact q _ _ _ _ m2 n2 r
  · exact .inl (rc_list S ρ G H x d dx Q m rx e q)
theorem df_listA (hg : Gl X "list") (hm : X.mg "list" = none) (hc : X.calm = true) (ha : DO X cls W a δa) (he : starEach [a] X.env = (false, eval a X.env) :: starEach [] X.env := by rfl) (hpl : (backTo pos (starEach [] X.env)).any (·.1) = false := by rfl) : DF X cls W (.Call (.Name "list" p) [a] [] pos) (eUn dListA δa) :=
  x_c1 back_RF (pe_callTy (call_list_of.or (call_listD hc)) hg hm (by decide +kernel) (da1 ha he) (by decide) (by decide) he hpl) rc_listA
def dDictA (d : D) : Option D := match d with
  | .dct ks xs => some (.dct ks xs)
  | d => dDict d
theorem rc_dictA {C : Cn} : RC1 C (RF C) (fun xs H Q => (∃ (a : Addr) (ps : List Addr) (kvs : List (Key × V)), xs = [.ref a] ∧ SqL C.K H a (ps.map V.ref) ∧ Paired (fun p kv => SqT C.K H p [kV kv.1, kv.2]) ps kvs ∧ ∀ p, H p = none → Q (.ref p) (upd H p (.dK (mergeK [] kvs)))) ∨
    ∃ (a : Addr) (kvs : List (Key × V)), xs = [.ref a] ∧ Rd H a (.dK kvs) ∧ ∀ p, H p = none → Q (.ref p) (upd H p (.dK kvs))) dDictA := fun S ρ G H x d dx Q m rx e q => by
  unfold dDictA at e
  split at e
  · rename_i ks xs
    cases e
    obtain ⟨a, vs, rfl, h1, hl, rr⟩ := rx
    refine .inr ⟨a, _, rfl, h1, fun p hp => ?_⟩
    obtain ⟨m', n', np, gp⟩ := m.new (o := .dK (ks.zip vs)) hp
    exact q (.ref p) ρ G _ m' n' ⟨p, rfl, np, hp, gp, vs, upd_same, hl, rr⟩
  · exact .inl (rc_dict S ρ G H x d dx Q m rx e q)
theorem df_dictA (hg : Gl X "dict") (hm : X.mg "dict" = none) (hc : X.calm = true) (ha : DO X cls W a δa) (he : starEach [a] X.env = (false, eval a X.env) :: starEach [] X.env := by rfl) (hpl : (backTo pos (starEach [] X.env)).any (·.1) = false := by rfl) : DF X cls W (.Call (.Name "dict" p) [a] [] pos) (eUn dDictA δa) :=
  x_c1 back_RF (pe_callTy ((call_dictP hc).or call_dictD) hg hm (by decide +kernel) (da1 ha he) (by decide) (by decide) he hpl) rc_dictA
/-! ### v = d.pop(k), d a slot's own; d.pop(k, x), d in the store -/
def sPopO (i j : Nat) (k : De) : Ds := fun Γ S => match Γ[j]? with
  | some (.own (.dct _ _)) => after (k Γ S) Γ fun y S1 => match Γ[j]?, keyD y with
    | some (.own (.dct ks xs)), some q => match dGet ks xs q with
      | some d => .next ((Γ.set j (.own (.dct (dDropX q ks xs).1 (dDropX q ks xs).2))).set i (.val d)) S1
      | none => .stuck
    | _, _ => .stuck
  | _ => .stuck
theorem ds_popO {i : Nat} {x : Str} {pos' : Pos} (j : Nat) (hN : X.N.Nodup) (hi : X.N[i]? = some x) (hx : Loc X.env.scope x) (ho : PE X o (tVar j)) (hk : DE X cls W e ε) (m : M1 X o "pop" apos e cpos) (hs : swapsWith (.Call (.Attribute o "pop" apos) [e] [] cpos) (some (.Name x pos')) pos.line X.env = pure false := by rfl)
    (hf : X.fn x = true ∨ X.env.scope.names.lookup x = some .local := by first | exact .inl rfl | exact .inr rfl | assumption) : DS X cls W (.Assign [.Name x pos'] (.Call (.Attribute o "pop" apos) [e] [] cpos) pos) (sPopO i j ε) :=
  PS.weak (ps_set hN hi hx (pe_dpop1 ho hk m) hs hf) fun Dn σ H ⟨en, Γ, S, ρ, G, s, p⟩ => by
    unfold sPopO at p
    split at p
    · rename_i ks0 xs0 hj
      obtain ⟨b, vs0, e1, h1, _, r, g, n⟩ := own_dct s hj
      refine ⟨_, e1, b, rfl, .inl ⟨_, .inl h1⟩, Γ, S, ρ, G, s.mem, post_after s p fun dy S1 ρ1 G1 H1 y m1 n1 s1 r1 p1 => ?_⟩
      split at p1
      · rename_i ks xs q hj2 hq
        obtain ⟨b', vs, e', h1', hl', r', g', n'⟩ := own_dct s1 hj2
        rw [e1] at e'; cases e'
        split at p1
        · rename_i d hd
          have ek := keyD_v hq r1
          subst ek
          have z := dGet_val r' hl' q
          rw [hd] at z
          obtain ⟨v, ev, rv⟩ := z
          obtain ⟨us, d1, d2, d3⟩ := drop_zip q r' hl'
          exact ⟨_, q, v, h1', rfl, ev, p1 _ _ _ _ ((s1.poke (d' := .dct (dDropX q ks xs).1 (dDropX q ks xs).2) (o := .dK (dropK (ks.zip vs) q)) hj2 e1 ⟨us, by rw [upd_same, d1], d2, d3⟩).setv i rv)⟩
        · exact p1.elim
      · exact p1.elim
    · exact p.elim
def sPop2P (o k x : De) : Ds := fun Γ S => after (o Γ S) Γ fun v S1 => if isDct (deref S1 v) = true then after (k Γ S1) Γ fun y S2 => after (x Γ S2) Γ fun _ S3 => match v with
  | .ptr q => match S3[q]?, keyD y with
    | some (.dct ks xs), some kk => if (dGet ks xs kk).isSome = true then .next Γ (S3.set q (.dct (dDropX kk ks xs).1 (dDropX kk ks xs).2)) else .next Γ S3
    | _, _ => .stuck
  | _ => .stuck else .stuck
theorem ds_pop2P {f : Expr} (ho : DE X cls W o δo) (hk : DE X cls W e ε1) (hf : DE X cls W f ε2) (m : M2 X o "pop" apos e f cpos) (hs : swapsWith (.Call (.Attribute o "pop" apos) [e, f] [] cpos) none pos.line X.env = pure false := by rfl) :
    DS X cls W (.Expr (.Call (.Attribute o "pop" apos) [e, f] [] cpos) pos) (sPop2P δo ε1 ε2) := PS.weak (ps_expr (pe_dpop2 ho hk hf m) hs) fun Dn σ H ⟨en, Γ, S, ρ, G, s, p⟩ =>
  ⟨Γ, S, ρ, G, s.mem, post_after s p fun dv S1 ρ1 G1 H1 v m1 n1 s1 r1 p1 => by
    split at p1
    · rename_i hd
      obtain ⟨b, rfl, isd⟩ := isDct_rt hd (m1.read (H0 := H1) (.inl r1))
      refine ⟨b, rfl, isd, Γ, S1, ρ1, G1, s1.mem, post_after s1 p1 fun dy S2 ρ2 G2 H2 y m2 n2 s2 r2 p2 => ⟨Γ, S2, ρ2, G2, s2.mem, post_after s2 p2 fun dx S3 ρ3 G3 H3 x m3 n3 s3 r3 p3 => ?_⟩⟩
      split at p3
      · rename_i q
        split at p3
        · rename_i ks xs kk hx hkk
          obtain ⟨a, vs, e1, ha, h1, hl, rr⟩ := sto_dct m3 ((Rep.mono n2.ext n2.pre _ _ r1).mono n3.ext n3.pre) hx
          cases e1
          have ek := keyD_v hkk (r2.mono n3.ext n3.pre)
          subst ek
          have vz := valV_some rr hl kk
          refine ⟨_, kk, h1, rfl, fun w hw => ?_, fun hw => ?_⟩
          · rw [if_pos (by rw [← vz, hw]; rfl)] at p3
            obtain ⟨us, d1, d2, d3⟩ := drop_zip kk rr hl
            obtain ⟨m4, n4⟩ := m3.poke (a := b) (o := .dK (dropK (ks.zip vs) kk)) (d' := .dct (dDropX kk ks xs).1 (dDropX kk ks xs).2) hx ha ⟨us, by rw [upd_same, d1], d2, d3⟩
            exact p3 _ _ _ _ (s3.step m4 n4)
          · rw [if_neg (by rw [← vz, hw]; simp)] at p3
            exact p3 _ _ _ _ s3
        · exact p3.elim
      · exact p3.elim
    · exact p1.elim⟩
end
/-! ### for x in xs[-1], a dict -/
def iKL (i : Nat) : Da := fun Γ S => match Γ[i]? with
  | some (.val (.ptr q)) => match S[q]? with
    | some (.lst ds) => match ds.getLast? with
      | some (.dct ks _) => .ok (ks.map keyK) S
      | _ => .stuck
    | _ => .stuck
  | _ => .stuck
def LkL (i : Nat) (σ : L2.St) (H : Hp) : Prop := ∃ a vs d od kvs, σ[i]? = some (some (V.ref a)) ∧ H a = some (.lst vs) ∧ atI vs (-1) = some (V.ref d) ∧ H d = some (.frz od (.dK kvs))
section
variable {X : Cx} {cls : Nat → Addr} {W : WX} {tg : Expr} {x : Str} {p0 p1 p2 p3 pos : Pos} {k0 : Nat}
theorem atI_neg1' {α : Type} {xs : List α} : atI xs (-1) = xs.getLast? := by
  unfold atI ixN
  rw [if_neg (by omega)]
  by_cases h : 0 < xs.length
  · rw [if_pos (by omega)]
    have : (-1 + (xs.length : Int)).toNat = xs.length - 1 := by omega
    simp [this, List.getLast?_eq_getElem?]
  · have : xs = [] := List.eq_nil_of_length_eq_zero (by omega)
    subst this; rfl
/-- what the list's last dict is -/
theorem last_dct {C : Cn} {Γ : List Sl} {S : List D} {ρ : List Addr} {G H : Hp} {σ : L2.St} (m : Mem C Γ S ρ G H σ) {i q : Nat} {ds : List D} {ks : List Key} {xs : List D} (h1 : Γ[i]? = some (.val (.ptr q))) (h2 : S[q]? = some (.lst ds)) (h3 : ds.getLast? = some (.dct ks xs)) :
    ∃ a vs d ws, σ[i]? = some (some (V.ref a)) ∧ H a = some (.lst vs) ∧ atI vs (-1) = some (V.ref d) ∧ G d = some (.dK (ks.zip ws)) ∧ ks.length = ws.length ∧ a ∈ ρ := by
  obtain ⟨v, e, r⟩ := m.val i _ h1
  obtain ⟨a, vs, rfl, ha, hH, rr⟩ := sto_at m r h2
  have z : atI ds (-1) = some (.dct ks xs) := by rw [← h3]; exact atI_neg1'
  obtain ⟨w, hw, rw'⟩ := atI_reps rr z
  rw [Rep] at rw'
  obtain ⟨d, ws, rfl, g, l, r2⟩ := rw'
  exact ⟨a, vs, d, ws, e, hH, hw, g, l.trans r2.length, List.mem_of_getElem? ha⟩
theorem pi_kL (i : Nat) (hN : X.N[i]? = some x := by rfl) (hv : Vis X.env.scope x := by first | exact Or.inl rfl | exact Or.inr (Or.inl rfl) | exact Or.inr (Or.inr rfl)) (hd : (x == ("__debug__" : Str)) = false := by decide)
    (hcd : (x == ("__classdict__" : Str)) = false := by decide) : PI X tg (.Subscript (.Name x p0) (.UnaryOp .USub (.Constant (.int 1) k0 p1) p2) p3) (fun σ H R => LkL i σ H ∧ tI ⟨X.K, cls⟩ W (iKL i) σ H R) := PI.weak (pi_keys (pe_ix ix_seq (pv i hN hv hd hcd) (pe_un un_neg pe_int) (fun _ _ => rfl))) fun σ H R ⟨⟨a, vs, d, od, kvs, e, hl, hat, hfz⟩, Γ, S, ρ, G, m, q⟩ => by
  unfold iKL at q
  split at q
  · rename_i xs S1 z
    split at z
    · rename_i qq h1
      split at z
      · rename_i ds h2
        split at z
        · rename_i ks xs' h3
          cases z
          obtain ⟨a', vs', d', ws, e', hl', hat', g, l2, _⟩ := last_dct m h1 h2 h3
          rw [e] at e'; cases e'
          rw [hl] at hl'; cases hl'
          rw [hat] at hat'; cases hat'
          have hk := m.sub.dk g
          rcases hk with hk | ⟨ob, hk⟩
          · rw [hfz] at hk; cases hk
          · rw [hfz] at hk; cases hk
            refine ⟨_, e, _, rfl, ?_⟩
            exact .inl ⟨a, vs, -1, .ref d, rfl, rfl, SqL.of hl, hat, d, od, rfl, .inl ⟨_, hfz, q _ ρ G H m .refl (src_keys hfz rfl l2)⟩⟩
        · cases z
      · cases z
    · cases z
  · rename_i z
    split at z
    · split at z
      · split at z <;> cases z
      · cases z
    · cases z
  · exact q.elim
def sForKL (i : Nat) (p : Pat) (kl : List Nat) (β : Ds) : Ds := fun Γ S => noXc (sFor (iKL i) p kl β Γ S)
theorem ds_forKL {body : List Stmt} {p : Pat} {kl : List Nat} {β : Ds} (i : Nat) (hp : PassesOwn (model X.prog X.w) X.A X.env X.xe) (hc : X.calm = true) (hg : PG X tg (p.g X.K)) (hb : DSs X cls W body β)
    (hN : X.N[i]? = some x := by rfl) (hv : Vis X.env.scope x := by first | exact Or.inl rfl | exact Or.inr (Or.inl rfl) | exact Or.inr (Or.inr rfl)) (hd : (x == ("__debug__" : Str)) = false := by decide)
    (hcd : (x == ("__classdict__" : Str)) = false := by decide)
    (hs : ∀ y, foldedSetIterable (.Subscript (.Name x p0) (.UnaryOp .USub (.Constant (.int 1) k0 p1) p2) p3) X.env y = pure y := by intro _; rfl) : DS X cls W (.For tg (.Subscript (.Name x p0) (.UnaryOp .USub (.Constant (.int 1) k0 p1) p2) p3) body [] pos) (sForKL i p kl β) := by
  have base := ps_for (pos := pos) hp hc (pi_kL (cls := cls) (W := W) (p0 := p0) (p1 := p1) (p2 := p2) (p3 := p3) (k0 := k0) (tg := tg) i hN hv hd hcd) hg hb hs
  refine PS.weak (PS.or base (ps_lock base)) fun Dn σ H ⟨en, Γ, S, ρ, G, s, q⟩ => ?_
  unfold sForKL at q
  have nx : ∀ e Γ' S', sFor (iKL i) p kl β Γ S ≠ .exc e Γ' S' := fun e Γ' S' z => by rw [z] at q; exact q
  have q' : PostS ⟨X.K, cls⟩ W en Dn (sFor (iKL i) p kl β Γ S) := by
    cases z : sFor (iKL i) p kl β Γ S with
    | exc e Γ' S' => exact absurd z (nx e Γ' S')
    | _ => rw [z] at q; exact q
  obtain ⟨qq, ds, ks, xs, h1, h2, h3⟩ : ∃ qq ds ks xs, Γ[i]? = some (.val (.ptr qq)) ∧ S[qq]? = some (.lst ds) ∧ ds.getLast? = some (.dct ks xs) := by
    unfold sFor iKL at q'
    split at q'
    · rename_i qq h1
      split at q'
      · rename_i ds h2
        split at q'
        · rename_i ks xs h3; exact ⟨qq, ds, ks, xs, h1, h2, h3⟩
        · exact q'.elim
      · exact q'.elim
    · exact q'.elim
  obtain ⟨a, vs, d, ws, e1, hl, hat, g, l2, ar⟩ := last_dct s.mem h1 h2 h3
  have ne : a ≠ d := fun z => by have := s.mem.stG a ar; rw [z, g] at this; cases this
  rcases s.mem.sub.dk g with hk | ⟨od, hk⟩
  · refine .inr ⟨d, _, hk, trivial, fun od => ?_⟩
    obtain ⟨en', s', b1, b2⟩ := ent_lock s hk g od
    have q2 := post_lock (u := .dK (ks.zip ws)) rfl b1 b2 nx q'
    have := for_core s' q2
    exact ⟨⟨a, vs, d, od, _, e1, by rw [upd_ne ne]; exact hl, hat, upd_same⟩, this⟩
  · exact .inl ⟨⟨a, vs, d, od, _, e1, hl, hat, hk⟩, for_core s q'⟩
end
end DL

namespace DL
open PySem PySem.Spec PyProof.Rows L2
section
variable {X : Cx} {C : Cn} {cls : Nat → Addr} {W : WX} {a b c e o : Expr} {δa δb δc δo ε : De} {pos pos' p apos cpos : Pos}
/-! ### str(e) -/
def dStr : D → Option D
  | .int i => if i.natAbs.log2 < 1920 then some (.str (toString i)) else none
  | .str z => some (.str z)
  | _ => none
theorem rc_str : RC1 C (RS C) (fun xs H Q => (∃ i, xs = [.int i] ∧ i.natAbs.log2 < 1920 ∧ Q (.str (toString i)) H) ∨ ∃ z, xs = [.str z] ∧ Q (.str z) H) dStr := fun S ρ G H x d dx Q m rx e q => by
  cases dx <;> try cases e
  · rename_i i
    unfold dStr at e
    simp only at e
    split at e
    · rename_i hl
      cases e
      rw [rt_int] at rx; subst rx
      exact .inl ⟨_, rfl, hl, q _ _ _ _ m .refl (rep_str.mpr rfl)⟩
    · cases e
  · rw [rt_str] at rx; subst rx
    exact .inr ⟨_, rfl, q _ _ _ _ m .refl (rep_str.mpr rfl)⟩
theorem de_strc (hg : Gl X "str") (hm : X.mg "str" = none) (ha : DO X cls W a δa) (he : starEach [a] X.env = (false, eval a X.env) :: starEach [] X.env := by rfl) (hpl : (backTo pos (starEach [] X.env)).any (·.1) = false := by rfl) : DE X cls W (.Call (.Name "str" p) [a] [] pos) (eUn dStr δa) :=
  x_c1 back_RS (pe_callTy (call_str_int.or SkE.call_str_str) hg hm (by decide +kernel) (da1 ha he) (by decide) (by decide) he hpl) rc_str
/-! ### sep.join(texts) -/
def dJoin (z y : D) : Option D := match z with
  | .str z => match (match y with | .lst xs => asStrs xs | .tup xs => asStrs xs | _ => none) with
    | some l => if (l.map (·.length)).sum + l.length * z.length ≤ 16777216 then some (.str (Txt.join z l)) else none
    | none => none
  | _ => none
def isStr : D → Bool | .str _ => true | _ => false
def eJoin (a b : De) : De := fun Γ S => (a Γ S).bind fun x S1 => if isStr x = true then (b Γ S1).bind fun y S2 => ofO (dJoin x (deref S2 y)) S2 else .stuck
theorem isStr_rep {ρ : List Addr} {G : Hp} {d : D} {v : V} (h : isStr d = true) (r : Rep C ρ G d v) : ∃ z, d = .str z ∧ v = .str z := by
  cases d <;> try cases h
  exact ⟨_, rfl, rep_str.mp r⟩
theorem de_join (ha : DE X cls W a δa) (hb : DO X cls W b δb) (hs : starEach [b] X.env = [(false, eval b X.env)] := by rfl) (hbase : attributeBase a "join" X.env (eval a X.env) = eval a X.env := by rfl) (hline : (apos.endLine == pos.line) = true := by rfl) :
    DE X cls W (.Call (.Attribute a "join" apos) [b] [] pos) (eJoin δa δb) :=
  PE.weak (pe_join ha hb hs hbase hline) fun σ H Q ⟨Γ, S, ρ, G, m, p⟩ => by
    refine ⟨Γ, S, ρ, G, m, (Post.seq back_RS p).mono fun x H1 ⟨dx, S1, ρ1, G1, m1, n1, r1, p1⟩ => ?_⟩
    split at p1
    · rename_i hd
      obtain ⟨z, rfl, rfl⟩ := isStr_rep hd r1
      refine ⟨⟨z, rfl⟩, Γ, S1, ρ1, G1, m1, (Post.seq back_RS p1).mono fun y H2 ⟨dy, S2, ρ2, G2, m2, n2, r2, p2⟩ => ?_⟩
      obtain ⟨d, hd3, p4⟩ := ofO_post p2
      have rt := m2.read r2
      unfold dJoin at hd3
      simp only at hd3
      split at hd3
      · rename_i l hl
        split at hd3
        · rename_i hz
          cases hd3
          generalize deref S2 dy = q at rt hl
          cases q <;> try cases hl
          · obtain ⟨p0, vs, rfl, h1, rr⟩ := rt
            have e := reps_strs2 rr hl
            subst e
            exact ⟨z, p0, l, rfl, rfl, .inl (SqL.of h1), hz, p4.at m2 (rep_str.mpr rfl)⟩
          · rw [rt_tup] at rt
            obtain ⟨p0, vs, rfl, h1, rr⟩ := rt
            have e := reps_strs2 rr hl
            subst e
            exact ⟨z, p0, l, rfl, rfl, .inr (m2.sub.sqT h1), hz, p4.at m2 (rep_str.mpr rfl)⟩
        · cases hd3
      · cases hd3
    · exact p1.elim
end
end DL

namespace DL
open PySem PySem.Spec PyProof.Rows L2
section
variable {X : Cx} {C : Cn} {cls : Nat → Addr} {W : WX} {a b c e o : Expr} {δa δb δc δo ε : De} {pos pos' p apos cpos : Pos} {f : Str} {g : Nat → Bool}
/-! ### o.f += e, whole numbers -/
def sAttA (f : Str) (g : Nat → Bool) (o e : De) : Ds := fun Γ S => after (o Γ S) Γ fun x S1 => match x with
  | .ptr q => match S1[q]? with
    | some (.ins c ns xs) => if g c = true then match (ns.zip xs).lookup f with
      | some (.int i) => after (e Γ S1) Γ fun y S2 => match y, S2[q]? with
        | .int j, some (.ins c' ns' xs') => if c' = c ∧ ns'.length < 900 then .next Γ (S2.set q (.ins c' (putD f (.int (i + j)) ns' xs').1 (putD f (.int (i + j)) ns' xs').2)) else .stuck
        | _, _ => .stuck
      | _ => .stuck
      else .stuck
    | _ => .stuck
  | _ => .stuck
theorem ds_attA {value : Expr} (hg : ∀ c, g c = true → Cls X.K (cls (c + 3)) ∧ NoAttr X.K (cls (c + 3)) f) (ho : DE X cls W o δo) (hv : DE X cls W value ε) :
    DS X cls W (.AugAssign (.Attribute o f pos') .Add value pos) (sAttA f g δo ε) := PS.weak (ps_fldaug ho hv in_add) fun D σ H ⟨en, Γ, S, ρ, G, s, p⟩ =>
  ⟨Γ, S, ρ, G, s.mem, post_after s p fun dx S1 ρ1 G1 H1 x m1 n1 s1 r1 p1 => by
    cases dx with
    | ptr q =>
      simp only at p1
      split at p1
      · rename_i c ns xs hx
        split at p1
        · rename_i hgc
          split at p1
          · rename_i i hi
            obtain ⟨b, hb, rfl⟩ := rep_ptr.mp r1
            obtain ⟨b', hb', dxx, vs, h1, hl, rr⟩ := m1.sto q _ hx
            rw [hb] at hb'; cases hb'
            obtain ⟨v, hv2, rv⟩ := zip_lookup rr hi
            have ev := rep_int.mp rv
            refine ⟨b, _, dxx, _, v, rfl, h1, (hg c hgc).1, (hg c hgc).2, hv2, Γ, S1, ρ1, G1, s1.mem, post_after s1 p1 fun dy S2 ρ2 G2 H2 y m2 n2 s2 r2 p2 => ?_⟩
            split at p2
            · rename_i j c' ns' xs' hx2
              split at p2
              · rename_i hc
                obtain ⟨rfl, hlen⟩ := hc
                obtain ⟨b2, hb2, eb⟩ := rep_ptr.mp (r1.mono n2.ext n2.pre)
                cases eb
                obtain ⟨b', hb', dx2, vs2, k1, k2, k3⟩ := m2.sto q _ hx2
                rw [hb2] at hb'; cases hb'
                have ey := rep_int.mp r2
                obtain ⟨us, e1, e2, e3⟩ := putD_rep (f := f) (d := .int (i + j)) (v := V.int (i + j)) (C := ⟨X.K, cls⟩) (ρ := ρ2) (G := G2) (rep_int.mpr rfl) k3 k2
                obtain ⟨m4, n4⟩ := m2.poke (a := b) (o := .ins (cls (c' + 3)) dx2 (putF f (.int (i + j)) (ns'.zip vs2))) (d' := .ins c' (putD f (.int (i + j)) ns' xs').1 (putD f (.int (i + j)) ns' xs').2) hx2 hb2 ⟨dx2, us, by rw [upd_same, e1], e2, e3⟩
                exact ⟨i, j, ev, ey, dx2, _, k1, by rw [List.length_zip]; omega, p2 _ _ _ _ (s2.step m4 n4)⟩
              · exact p2.elim
            · exact p2.elim
          · exact p1.elim
        · exact p1.elim
      · exact p1.elim
    | _ => exact p1.elim⟩
/-! ### x.startswith(y, n) -/
def dSt3 (x y z : D) : Option D := match x, y, z with
  | .str a, .str b, .int i => some (.bl (Txt.startswith3 a b i))
  | _, _, _ => none
def eSt3 (a b c : De) : De := fun Γ S => (a Γ S).bind fun x S1 => if isStr x = true then (b Γ S1).bind fun y S2 => (c Γ S2).bind fun z S3 => ofO (dSt3 x y z) S3 else .stuck
def tM2 (r : V → List V → Hp → VK → Prop) (to te tf : TE) : TE := fun σ H Q => to σ H fun x H1 => (∃ a, x = .str a) ∧ te σ H1 fun y H2 => tf σ H2 fun z H3 => r x [y, z] H3 Q
theorem pe_m2 {id : String} {name : Str} {r : V → List V → Hp → VK → Prop} {to te tf : TE} (slot : Slot "str" name id) (ty : typeOf (.builtin id) = pure (.type "method_descriptor")) (rule : MtR X id r) (ho : PE X o to) (he : PE X b te) (hf : PE X c tf)
    (hs : starEach [b, c] X.env = [(false, eval b X.env), (false, eval c X.env)]) (hbase : attributeBase o name X.env (eval o X.env) = eval o X.env) (hline : (apos.endLine == pos.line) = true) :
    PE X (.Call (.Attribute o name apos) [b, c] [] pos) (tM2 r to te tf) := by
  refine ⟨fun pins s σ H Q I h => ?_⟩
  refine PySem.Call_method2 hbase hs hline (thn (ho.run pins s σ H _ I h) fun v s1 ⟨x, H1, I1, r1, q1⟩ => ?_)
  obtain ⟨⟨a, rfl⟩, q1⟩ := q1
  obtain ⟨t, rfl⟩ := _root_.id r1
  refine ⟨"str", _, F.plainAttrs_str, slot, ty, typeIs_str _ _ _, (fun _ e => nomatch e), Calls.callWith_builtin rfl (Calls.evalArgs_plain (Calls.spliced_cons ?_))⟩
  exact thn (he.run pins s1 σ H1 _ I1 q1) fun u s2 ⟨y, H2, I2, r2, q2⟩ => Calls.spliced_cons (thn (hf.run pins s2 σ H2 _ I2 q2) fun u3 s3 ⟨z, H3, I3, r3, q3⟩ => Calls.spliced_nil (rule pins s3 σ H3 _ [y, z] _ [u, u3] Q I3 r1 (.cons r2 (.cons r3 .nil)) q3))
theorem de_st3 (ha : DE X cls W a δa) (hb : DE X cls W b δb) (hc : DE X cls W c δc) (hs : starEach [b, c] X.env = [(false, eval b X.env), (false, eval c X.env)] := by rfl) (hbase : attributeBase a "startswith" X.env (eval a X.env) = eval a X.env := by rfl) (hline : (apos.endLine == pos.line) = true := by rfl) :
    DE X cls W (.Call (.Attribute a "startswith" apos) [b, c] [] pos) (eSt3 δa δb δc) :=
  PE.weak (pe_m2 F.slot_str_startswith F.type_str_startswith mt_startswith3 ha hb hc hs hbase hline) fun σ H Q ⟨Γ, S, ρ, G, m, p⟩ => by
    refine ⟨Γ, S, ρ, G, m, (Post.seq back_RS p).mono fun x H1 ⟨dx, S1, ρ1, G1, m1, n1, r1, p1⟩ => ?_⟩
    split at p1
    · rename_i hd
      obtain ⟨z, rfl, rfl⟩ := isStr_rep hd r1
      refine ⟨⟨z, rfl⟩, Γ, S1, ρ1, G1, m1, (Post.seq back_RS p1).mono fun y H2 ⟨dy, S2, ρ2, G2, m2, n2, r2, p2⟩ => ⟨Γ, S2, ρ2, G2, m2, (Post.seq back_RS p2).mono fun w H3 ⟨dz, S3, ρ3, G3, m3, n3, r3, p3⟩ => ?_⟩⟩
      obtain ⟨d, hd3, p4⟩ := ofO_post p3
      cases dy <;> try cases hd3
      cases dz <;> try cases hd3
      rw [rep_str.mp r2, rep_int.mp r3]
      exact ⟨z, _, _, rfl, rfl, p4.at m3 (rep_bl.mpr rfl)⟩
    · exact p1.elim
end
end DL

namespace DL
open PySem PySem.Spec PyProof.Rows L2
section
variable {X : Cx} {C : Cn} {cls : Nat → Addr} {W : WX}
/-! ### raise X(), X an own error without an __init__ -/
theorem pmk_own0 {C : Addr} {bmB : List Value} {B newId initId : String} {x : Str} {p pos : Pos} (F : ExcBaseFacts B newId initId bmB) (q : PySem.W.excIn X.K C bmB newId = true) (gC : X.mg x = some (.ref C)) (kC : PySem.W.keepIn X.K (.ref C) = true) (r : Raises X (.ref C)) (hg : Gl X x)
    (hdb : (x == ("__debug__" : Str)) = false := by decide) :
    PMk X (.Call (.Name x p) [] [] pos) (fun σ H Q => Q (.ref C) none H) := by
  intro pins s σ H Q I h
  refine wpAny_Call_Name_kw (ld_glob I hg gC ?_ hdb)
  refine PySem.W.callWith_K0 I.kIn kC ?_
  show wpAny _ _ (call (.ref C) []) _ _ _
  obtain ⟨bm, N, nm, qn, bs, hdct, sn, sub, ab, col, dd, k0, k1, k2, k3, k5, mN, hC, hN, hni, T⟩ := exc_obj I.kIn q
  refine wpAny_call_exc_subT F T hC hN hni (fun h' e hm => ?_) (by show 0 ≤ sizeLine; omega)
  exact mk_of I hm r h (I.hok.gone hm.new)
def sRaise0 (c : Nat) : Ds := fun Γ S => .exc ⟨c, [], []⟩ Γ S
@[simp] theorem x_sRaise0 {c : Nat} {Γ : List Sl} {S : List D} : sRaise0 c Γ S = .exc ⟨c, [], []⟩ Γ S := Eq.trans rfl rfl
theorem ds_raise0 {bmB : List Value} {B newId initId : String} {c : Nat} {x : Str} {p pos pos2 : Pos} (hc : X.calm = true) (F : ExcBaseFacts B newId initId bmB) (q : PySem.W.excIn X.K (cls (c + 3)) bmB newId = true) (gC : X.mg x = some (.ref (cls (c + 3)))) (kC : PySem.W.keepIn X.K (.ref (cls (c + 3))) = true)
    (r : Raises X (.ref (cls (c + 3)))) (tk : Takes X W) (hg : Gl X x) (hdb : (x == ("__debug__" : Str)) = false := by decide) :
    DS X cls W (.Raise (some (.Call (.Name x p) [] [] pos)) none pos2) (sRaise0 c) :=
  PS.weak (ps_raise hc tk (pmk_own0 F q gC kC r hg hdb)) fun Dn σ H ⟨en, Γ, S, ρ, G, s, p⟩ => p _ _ ρ _ _ σ s ⟨rfl, fun _ => rfl, fun z => absurd rfl z⟩
end
end DL

namespace DL
open PySem PySem.Spec PyProof.Rows L2
/-! ### [e for p in xs], xs an own list -/
def iO (i : Nat) : Da := fun Γ S => match Γ[i]? with
  | some (.own (.lst xs)) => .ok xs S
  | _ => .stuck
@[simp] theorem x_iO {i : Nat} {Γ : List Sl} {S : List D} : iO i Γ S = match Γ[i]? with
  | some (.own (.lst xs)) => .ok xs S
  | _ => .stuck := Eq.trans rfl rfl
section
variable {X : Cx} {cls : Nat → Addr} {W : WX}
theorem x_compO {i0 : Nat} {p : Pat} {τ : Dt} {ε : De} {vs : List Nat} (hv : ∀ i ∈ p.vars, i ∈ vs) {σ : L2.St} {H1 : Hp} {Q : VK} (h : tE ⟨X.K, cls⟩ W (RF ⟨X.K, cls⟩) (eComp (iO i0) p vs τ ε) σ H1 Q) :
    tLc (iList X.K (tVar i0)) (p.g X.K) (tT ⟨X.K, cls⟩ W0 τ) (tE ⟨X.K, cls⟩ W0 (RS ⟨X.K, cls⟩) ε) vs σ H1 Q := by
  obtain ⟨Γ, S1, ρ1, G1, m1, q⟩ := h
  unfold eComp at q
  cases z : iO i0 Γ S1 with
  | exc x S2 => unfold iO at z; split at z <;> cases z
  | stuck => rw [z] at q; exact q.elim
  | ok xs S2 =>
    have hΓ : Γ[i0]? = some (Sl.own (.lst xs)) ∧ S1 = S2 := by
      unfold iO at z
      split at z
      · rename_i ys e
        cases z
        exact ⟨e, rfl⟩
      · cases z
    obtain ⟨hΓ, rfl⟩ := hΓ
    rw [z] at q
    simp only [Res.bind_ok] at q
    obtain ⟨a, hσ, ⟨vs0, ha, ra⟩, _, _⟩ := m1.own i0 _ hΓ
    have at_ : ∀ S ρ G H, Mem ⟨X.K, cls⟩ Γ S ρ G H σ → ∃ vs1, H a = some (.lst vs1) ∧ Reps ⟨X.K, cls⟩ ρ G xs vs1 := fun S ρ G H ms => by
      obtain ⟨b, hb, ⟨v1, h1, r1⟩, _⟩ := ms.own i0 _ hΓ
      rw [hσ] at hb; cases hb
      exact ⟨v1, h1, r1⟩
    have goA : ∀ S ρ G H i, Mem ⟨X.K, cls⟩ Γ S ρ G H σ → i < xs.length → (Itl X.K a).go i H := fun S ρ G H i ms hi => by
      obtain ⟨v1, h1, r1⟩ := at_ S ρ G H ms
      exact ⟨v1, v1[i]'(by rw [← r1.length]; exact hi), SqL.of h1, List.getElem?_eq_getElem _⟩
    have yldA : ∀ S ρ G H i x H' d, Mem ⟨X.K, cls⟩ Γ S ρ G H σ → xs[i]? = some d → (Itl X.K a).yld i H x H' → ∃ G', MemS ⟨X.K, cls⟩ S ρ G' H' ∧ Nx ρ G H ρ G' H' ∧ Rep ⟨X.K, cls⟩ ρ G' d x := fun S ρ G H i x H' d ms hd y => by
      obtain ⟨v1, h1, r1⟩ := at_ S ρ G H ms
      obtain ⟨rfl, y⟩ := y
      obtain ⟨v, hv2, rv⟩ := r1.get hd
      have e := y v1 (SqL.of h1)
      rw [hv2] at e; cases e
      exact ⟨G, ms.toS, .refl, rv⟩
    have stopA : ∀ S ρ G H, Mem ⟨X.K, cls⟩ Γ S ρ G H σ → (Itl X.K a).stop xs.length H := fun S ρ G H ms => by
      obtain ⟨v1, h1, r1⟩ := at_ S ρ G H ms
      exact ⟨v1, SqL.of h1, by rw [r1.length]; exact Nat.le_refl _⟩
    refine ⟨_, hσ, a, rfl, ⟨vs0, SqL.of ha⟩, ?_⟩
    intro D0 hD
    have hown : ∀ (i : Nat) (d : D) (b : Addr), Γ[i]? = some (Sl.own d) → σ[i]? = some (some (V.ref b)) → b ≠ D0 := fun i d b h1 h2 e => by
      obtain ⟨b', e', r', _⟩ := m1.own i d h1
      rw [h2] at e'; cases e'
      obtain ⟨o, ho⟩ := r'.some
      rw [e, hD] at ho; cases ho
    have hownw : ∀ (i : Nat) (d : D) (b : Addr), (wipeD Γ vs)[i]? = some (Sl.own d) → (L2.wipe σ vs)[i]? = some (some (V.ref b)) → b ≠ D0 := fun i d b h1 h2 => by
      obtain ⟨k1, k2⟩ := wipeD_own h1
      rw [wipe_out2 k2] at h2
      exact hown i d b k1 h2
    have gD : G1 D0 = none := by
      cases e : G1 D0 with
      | none => rfl
      | some o => obtain ⟨_, z⟩ := m1.sub.has e; rw [z] at hD; cases hD
    have pD : D0 ∉ ρ1 := fun e => by
      obtain ⟨i, hi⟩ := List.mem_iff_getElem?.mp e
      have hi2 : i < S1.length := by rw [← m1.len]; exact (List.getElem?_eq_some_iff.mp hi).1
      obtain ⟨a, ha, r⟩ := m1.sto i S1[i] (List.getElem?_eq_getElem hi2)
      rw [hi] at ha; cases ha
      obtain ⟨o, ho⟩ := r.some
      rw [ho] at hD; cases hD
    -- the state of the loop
    let Pv : Nat → Hp → Prop := fun i H => ∃ S ρ G acc accd, Mem ⟨X.K, cls⟩ Γ S ρ G H σ ∧ H D0 = some (.lst acc) ∧ Reps ⟨X.K, cls⟩ ρ G accd acc ∧ D0 ∉ ρ ∧ G D0 = none ∧ Nx ρ1 G1 H1 ρ G H ∧
      compD p τ ε xs (wipeD Γ vs) S1 = (compD p τ ε (xs.drop i) (wipeD Γ vs) S).bind fun ds S3 => .ok (accd ++ ds) S3
    refine ⟨fun i mm H => mm = xs.length - i ∧ i ≤ xs.length ∧ Pv i H, ⟨xs.length, by omega, Nat.zero_le _, S1, ρ1, G1, [], [], m1.aside gD (noTE_of hD) pD hown, upd_same, .nil, pD, gD, Nx.refl.aside hD, ?_⟩, fun i mm H ⟨hm, hi, S, ρ, G, acc, accd, ms, hacc, racc, pD', gD', nn, eqn⟩ => ?_⟩
    · rw [List.drop_zero]
      cases compD p τ ε xs (wipeD Γ vs) S1 <;> rfl
    · have sub1 : Sub G1 G := nn.ext
      by_cases hlt : i < xs.length
      · rw [List.drop_eq_getElem_cons hlt, compD] at eqn
        refine .inr ⟨goA S ρ G H i ms hlt, Pv (i + 1), fun H' n => ⟨xs.length - (i + 1), by omega, rfl, hlt, n⟩, fun x H' y => ?_⟩
        obtain ⟨G', m', n', r'⟩ := yldA S ρ G H i x H' _ ms (List.getElem?_eq_getElem hlt) y
        have mH' := ms.step n' m'
        have mw := mH'.wipe vs
        cases hbd : p.bind xs[i] (wipeD Γ vs) with
        | none => rw [hbd] at eqn; rw [eqn] at q; exact q.elim
        | some Γ1 =>
          rw [hbd] at eqn
          simp only at eqn
          refine Pat.ok (C := ⟨X.K, cls⟩) p xs[i] x (wipeD Γ vs) Γ1 (L2.wipe σ vs) mw r' hbd _ fun σ2 m2 _ kp => ⟨?_, Γ1, S, ρ, G', m2, ?_⟩
          · rw [wipe_eq kp.1 fun j hj => kp.2 j fun h => hj (hv j h), wipe_eq (L2.wipe_length σ vs) fun j hj => wipe_out2 hj]
          · -- the test
            cases zt : τ Γ1 S with
            | exc x2 S2 => rw [zt] at eqn; rw [eqn] at q; exact q.elim
            | stuck => rw [zt] at eqn; rw [eqn] at q; exact q.elim
            | ok k S2 =>
              rw [zt] at eqn
              simp only [nox_ok, Res.bind_ok] at eqn
              intro kv ρ2 G2 H2 mm2 nn2 rk
              have ek : k = kv := rk
              subst ek
              have nnH : Nx ρ G H ρ2 G2 H2 := n'.trans nn2
              have mg2 : Mem ⟨X.K, cls⟩ Γ S2 ρ2 G2 H2 σ := ms.step nnH mm2.toS
              cases k with
              | false =>
                simp only [Bool.false_eq_true, if_false] at eqn
                refine iteF ⟨S2, ρ2, G2, acc, accd, mg2, nnH.keep _ _ (fun _ z => nomatch z) hacc pD', Reps.mono nnH.ext nnH.pre _ _ racc, fun z => ?_, ?_, nn.trans nnH, eqn⟩
                · rcases nnH.fre _ z with z | z
                  · exact pD' z
                  · rw [hacc] at z; cases z
                · cases e : G2 D0 with
                  | none => rfl
                  | some o => rcases nnH.new _ _ e with z | z
                              · rw [gD'] at z; cases z
                              · rw [hacc] at z; cases z
              | true =>
                simp only [if_true] at eqn
                refine iteT ⟨Γ1, S2, ρ2, G2, mm2, ?_⟩
                cases ze : ε Γ1 S2 with
                | exc x3 S3 => rw [ze] at eqn; rw [eqn] at q; exact q.elim
                | stuck => rw [ze] at eqn; rw [eqn] at q; exact q.elim
                | ok d S3 =>
                  rw [ze] at eqn
                  simp only [nox_ok, Res.bind_ok] at eqn
                  intro dv ρ3 G3 H3 mm3 nn3 rd
                  have nn4 : Nx ρ G H ρ3 G3 H3 := nnH.trans nn3
                  have hacc3 : H3 D0 = some (.lst acc) := nn4.keep _ _ (fun _ z => nomatch z) hacc pD'
                  have pD3 : D0 ∉ ρ3 := fun z => by
                    rcases nn4.fre _ z with z | z
                    · exact pD' z
                    · rw [hacc] at z; cases z
                  have gD3 : G3 D0 = none := by
                    cases e : G3 D0 with
                    | none => rfl
                    | some o => rcases nn4.new _ _ e with z | z
                                · rw [gD'] at z; cases z
                                · rw [hacc] at z; cases z
                  have mg3 : Mem ⟨X.K, cls⟩ Γ S3 ρ3 G3 H3 σ := ms.step nn4 mm3.toS
                  have eqn2 : compD p τ ε xs (wipeD Γ vs) S1 = (compD p τ ε (xs.drop (i + 1)) (wipeD Γ vs) S3).bind fun ds S3 => .ok ((accd ++ [d]) ++ ds) S3 := by
                    rw [eqn]
                    cases compD p τ ε (xs.drop (i + 1)) (wipeD Γ vs) S3 with
                    | ok ds S4 => simp only [Res.bind_ok, List.append_assoc, List.singleton_append]
                    | exc _ _ => rfl
                    | stuck => rfl
                  refine ⟨acc, hacc3, ?_, S3, ρ3, G3, acc ++ [dv], accd ++ [d], mg3.aside gD3 (noTE_lst hacc3) pD3 hown, upd_same, (Reps.mono nn4.ext nn4.pre _ _ racc).append (.cons rd .nil), pD3, gD3, (nn.trans nn4).aside hD, eqn2⟩
                  rw [eqn2] at q
                  cases zz : compD p τ ε (xs.drop (i + 1)) (wipeD Γ vs) S3 with
                  | exc _ _ =>
                    exfalso
                    have : ∀ (xs : List D) (Γ : List Sl) (S : List D) e S', compD p τ ε xs Γ S ≠ .exc e S' := by
                      intro xs
                      induction xs with
                      | nil => intro Γ S e S' h; cases h
                      | cons x xs ih =>
                        intro Γ S e S' h
                        rw [compD] at h
                        cases a1 : p.bind x Γ with
                        | none => rw [a1] at h; cases h
                        | some Γ1 =>
                          rw [a1] at h
                          simp only at h
                          cases a2 : τ Γ1 S with
                          | exc _ _ => rw [a2] at h; cases h
                          | stuck => rw [a2] at h; cases h
                          | ok k S1 =>
                            rw [a2] at h
                            simp only [nox_ok, Res.bind_ok] at h
                            cases k with
                            | false => exact ih _ _ _ _ (by simpa using h)
                            | true =>
                              simp only [if_true] at h
                              cases a3 : ε Γ1 S1 with
                              | exc _ _ => rw [a3] at h; cases h
                              | stuck => rw [a3] at h; cases h
                              | ok d S2 =>
                                rw [a3] at h
                                simp only [nox_ok, Res.bind_ok] at h
                                cases a4 : compD p τ ε xs Γ S2 with
                                | ok _ _ => rw [a4] at h; cases h
                                | stuck => rw [a4] at h; cases h
                                | exc _ _ => exact ih _ _ _ _ a4
                    exact this _ _ _ _ _ zz
                  | stuck => rw [zz] at q; exact q.elim
                  | ok ds S4 =>
                    rw [zz] at q
                    simp only [Res.bind_ok] at q
                    unfold lenOk at q
                    split at q
                    · rename_i hl
                      rw [List.length_append, List.length_append, List.length_singleton] at hl
                      rw [← racc.length]; omega
                    · exact q.elim
      · have e : i = xs.length := by omega
        subst e
        refine .inl ⟨stopA S ρ G H ms, ?_⟩
        rw [List.drop_length, compD] at eqn
        rw [eqn] at q
        simp only [Res.bind_ok, List.append_nil] at q
        unfold lenOk at q
        split at q
        · exact q _ ρ G H ms nn ⟨D0, rfl, pD', hD, gD', acc, hacc, racc⟩
        · exact q.elim
theorem df_compO {elt tg : Expr} {y : Str} {py : Pos} {ifs : List Expr} {scope : Scope} {own : List (Str × Nat)} {pos : Pos} {p : Pat} {τ : Dt} {ε : De} (i : Nat) (hc : X.calm = true) (hN : X.N.Nodup) (hi : PE X (.Name y py) (tVar i)) (ok : BlkOk X.N X.env.scope scope own) (hv : ∀ i ∈ p.vars, i ∈ own.map (·.2))
    (hg : ∀ (s : Shared) (H : Hp) (C : Addr) (cl : List (Str × Addr)) (fp : List Addr), PG (X.blk s H scope (compEnvC scope cl C X.env) fp) tg (p.g X.K)) (ht : ∀ (s : Shared) (H : Hp) (C : Addr) (cl : List (Str × Addr)) (fp : List Addr), DTs (X.blk s H scope (compEnvC scope cl C X.env) fp) cls ifs τ)
    (he : ∀ (s : Shared) (H : Hp) (C : Addr) (cl : List (Str × Addr)) (fp : List Addr), DE (X.blk s H scope (compEnvC scope cl C X.env) fp) cls W0 elt ε) (hs : ∀ x, foldedSetIterable (.Name y py) X.env x = pure x := by intro _; rfl) :
    DF X cls W (.ListComp elt [⟨tg, .Name y py, ifs, 0⟩] scope pos) (eComp (iO i) p (own.map (·.2)) τ ε) := PE.weak (pe_lc (tt := tT ⟨X.K, cls⟩ W0 τ) (te := tE ⟨X.K, cls⟩ W0 (RS ⟨X.K, cls⟩) ε) hc hN (pi_list hi) ok hg ht he hs) fun σ H Q h => x_compO hv h
end
end DL

namespace DL
open PySem L2

/-! ### reckoning with denotations -/
section
variable {Γ : List Sl} {S : List D} {a b c : De} {t u : Dt} {α β : Da}
@[simp] theorem x_eV {i : Nat} : eV i Γ S = match Γ[i]? with | some (.val d) => .ok d S | _ => .stuck := Eq.trans rfl rfl
@[simp] theorem x_oV {i : Nat} : oV i Γ S = match Γ[i]? with | some (.val d) => .ok d S | some (.own d) => .ok d S | _ => .stuck := Eq.trans rfl rfl
@[simp] theorem x_eC {d : D} : eC d Γ S = .ok d S := Eq.trans rfl rfl
@[simp] theorem x_eOp {f : D → D → Option D} : eOp f a b Γ S = (a Γ S).bind fun x S1 => (b Γ S1).bind fun y S2 => ofO (f (deref S2 x) (deref S2 y)) S2 := Eq.trans rfl rfl
@[simp] theorem x_eUn {f : D → Option D} : eUn f a Γ S = (a Γ S).bind fun x S1 => ofO (f (deref S1 x)) S1 := Eq.trans rfl rfl
@[simp] theorem x_tB : tB a Γ S = (a Γ S).bind fun x S1 => ofO (asB x) S1 := Eq.trans rfl rfl
@[simp] theorem x_tTru : tTru a Γ S = (a Γ S).bind fun x S1 => ofO (dTruth (deref S1 x)) S1 := Eq.trans rfl rfl
@[simp] theorem x_tAnd : tAndD t u Γ S = (t Γ S).bind fun x S1 => if x then u Γ S1 else .ok false S1 := Eq.trans rfl rfl
@[simp] theorem x_tOr : tOrD t u Γ S = (t Γ S).bind fun x S1 => if x then .ok true S1 else u Γ S1 := Eq.trans rfl rfl
@[simp] theorem x_tNot : tNotD t Γ S = (t Γ S).bind fun x S1 => .ok (!x) S1 := Eq.trans rfl rfl
@[simp] theorem x_tTrue : tTrue Γ S = .ok true S := Eq.trans rfl rfl
@[simp] theorem x_eIf : eIf t a b Γ S = (t Γ S).bind fun x S1 => if x then a Γ S1 else b Γ S1 := Eq.trans rfl rfl
@[simp] theorem x_eAnd : eAnd a b Γ S = (a Γ S).bind fun x S1 => match asB x with | some true => b Γ S1 | some false => .ok (.bl false) S1 | none => .stuck := Eq.trans rfl rfl
@[simp] theorem x_eOr : eOr a b Γ S = (a Γ S).bind fun x S1 => match asB x with | some true => .ok (.bl true) S1 | some false => b Γ S1 | none => .stuck := Eq.trans rfl rfl
@[simp] theorem x_eNot : eNot a Γ S = (a Γ S).bind fun x S1 => match asB x with | some b => .ok (.bl (!b)) S1 | none => .stuck := Eq.trans rfl rfl
@[simp] theorem x_aNil : aNil Γ S = .ok [] S := Eq.trans rfl rfl
@[simp] theorem x_aCons : aCons a α Γ S = (a Γ S).bind fun x S1 => (α Γ S1).bind fun xs S2 => .ok (x :: xs) S2 := Eq.trans rfl rfl
@[simp] theorem x_eCall {F : List D → List D → Res D} : eCall F α Γ S = (α Γ S).bind fun ds S1 => F ds S1 := Eq.trans rfl rfl
@[simp] theorem x_eTup : eTup α Γ S = (α Γ S).bind fun ds S1 => .ok (.tup ds) S1 := Eq.trans rfl rfl
@[simp] theorem x_eLst : eLst α Γ S = (α Γ S).bind fun ds S1 => .ok (.lst ds) S1 := Eq.trans rfl rfl
@[simp] theorem x_eBox : eBox a Γ S = (a Γ S).bind fun d S1 => .ok (.ptr S1.length) (S1 ++ [d]) := Eq.trans rfl rfl
@[simp] theorem x_pNo : pNo Γ S = .ok none S := Eq.trans rfl rfl
@[simp] theorem x_pSo : pSo a Γ S = (a Γ S).bind fun x S1 => ofO ((asI x).map some) S1 := Eq.trans rfl rfl
@[simp] theorem x_eCut {f : D → Option Int → Option Int → Option D} {l h : Dp_} : eCut f a l h Γ S = (a Γ S).bind fun x S1 => (l Γ S1).bind fun l S2 => (h Γ S2).bind fun h S3 => ofO (f (deref S3 x) l h) S3 := Eq.trans rfl rfl
@[simp] theorem x_eComp {p : Pat} {vs : List Nat} : eComp α p vs t a Γ S = (α Γ S).bind fun xs S1 => (compD p t a xs (wipeD Γ vs) S1).bind fun ds S2 => ofO (lenOk ds) S2 := Eq.trans rfl rfl
@[simp] theorem x_iA : iA a Γ S = (a Γ S).bind fun x S1 => ofO (items x) S1 := Eq.trans rfl rfl
@[simp] theorem x_iR1 : iR1 a Γ S = (a Γ S).bind fun x S1 => match asI x with | some j => if inR j then .ok (rangeD 0 j.toNat) S1 else .stuck | none => .stuck := Eq.trans rfl rfl
@[simp] theorem x_iR2 : iR2 a b Γ S = (a Γ S).bind fun x S1 => (b Γ S1).bind fun y S2 => match asI x, asI y with | some i, some j => if inR i ∧ inR j then .ok (rangeD i (j - i).toNat) S2 else .stuck | _, _ => .stuck := Eq.trans rfl rfl
@[simp] theorem x_asB {k : Bool} : asB (.bl k) = some k := Eq.trans rfl rfl
@[simp] theorem x_asI {k : Int} : asI (.int k) = some k := Eq.trans rfl rfl
variable {s1 s2 : Ds}
@[simp] theorem x_sNext : sNext Γ S = .next Γ S := Eq.trans rfl rfl
@[simp] theorem x_sSeq : sSeq s1 s2 Γ S = match s1 Γ S with | .next Γ' S' => s2 Γ' S' | o => o := Eq.trans rfl rfl
@[simp] theorem x_sExpr : sExpr a Γ S = after (a Γ S) Γ fun _ S1 => .next Γ S1 := Eq.trans rfl rfl
@[simp] theorem x_sRet : sRet a Γ S = after (a Γ S) Γ fun d S1 => .ret d S1 := Eq.trans rfl rfl
@[simp] theorem x_sRetN : sRetN Γ S = .ret .non S := Eq.trans rfl rfl
@[simp] theorem x_sRetO {i : Nat} : sRetO i Γ S = match Γ[i]? with | some (.own d) => .ret d S | _ => .stuck := Eq.trans rfl rfl
@[simp] theorem x_sSet {i : Nat} : sSet i a Γ S = after (a Γ S) Γ fun d S1 => .next (Γ.set i (.val d)) S1 := Eq.trans rfl rfl
@[simp] theorem x_sOwn {i : Nat} : sOwn i a Γ S = after (a Γ S) Γ fun d S1 => .next (Γ.set i (.own d)) S1 := Eq.trans rfl rfl
@[simp] theorem x_sIf : sIf t s1 s2 Γ S = after (t Γ S) Γ fun k S1 => if k then s1 Γ S1 else s2 Γ S1 := Eq.trans rfl rfl
@[simp] theorem x_sBrk : sBrk Γ S = .brk Γ S := Eq.trans rfl rfl
@[simp] theorem x_sCont : sCont Γ S = .cont Γ S := Eq.trans rfl rfl
@[simp] theorem x_sClr {kl : List Nat} : sClr kl Γ S = .next (clr kl Γ) S := Eq.trans rfl rfl
@[simp] theorem x_sSettle {i : Nat} : sSettle i Γ S = match Γ[i]? with | some (.own d) => .next (Γ.set i (.val d)) S | _ => .stuck := Eq.trans rfl rfl
@[simp] theorem x_sAppO {i : Nat} : sAppO i a Γ S = match Γ[i]? with
  | some (.own (.lst xs)) => after (a Γ S) Γ fun d S1 => if xs.length < sizeLine then .next (Γ.set i (.own (.lst (xs ++ [d])))) S1 else .stuck
  | _ => .stuck := Eq.trans rfl rfl
@[simp] theorem x_sSetO {i : Nat} {k : De} : sSetO i k a Γ S = after (a Γ S) Γ fun d S1 => match Γ[i]? with
  | some (.own (.lst xs)) => after (k Γ S1) Γ fun x S2 => match (asI x).bind (ixN xs.length) with
    | some j => .next (Γ.set i (.own (.lst (xs.set j d)))) S2
    | none => .stuck
  | _ => .stuck := Eq.trans rfl rfl
@[simp] theorem x_sSetP {o k : De} : sSetP o k a Γ S = after (a Γ S) Γ fun d S1 => after (o Γ S1) Γ fun x S2 => after (k Γ S2) Γ fun y S3 => match x with
  | .ptr q => match S3[q]? with
    | some (.lst xs) => match (asI y).bind (ixN xs.length) with
      | some j => .next Γ (S3.set q (.lst (xs.set j d)))
      | none => .stuck
    | _ => .stuck
  | _ => .stuck := Eq.trans rfl rfl
@[simp] theorem x_sAug {i : Nat} {f : D → D → Option D} : sAug i f a Γ S = match Γ[i]? with
  | some (.val dx) => after (a Γ S) Γ fun dy S1 => match f (deref S1 dx) (deref S1 dy) with
    | some d => .next (Γ.set i (.val d)) S1
    | none => .stuck
  | _ => .stuck := Eq.trans rfl rfl
@[simp] theorem x_sBind {p : Pat} : sBind p a Γ S = after (a Γ S) Γ fun d S1 => match p.bind d Γ with | some Γ' => .next Γ' S1 | none => .stuck := Eq.trans rfl rfl
@[simp] theorem x_sFor {p : Pat} {kl : List Nat} : sFor α p kl s1 Γ S = after (α Γ S) Γ fun xs S1 => forD p kl s1 xs Γ S1 := Eq.trans rfl rfl
@[simp] theorem x_bodyRun {n : Nat} {ds : List D} : bodyRun n s1 ds S = match s1 (ds.map Sl.val ++ List.replicate (n - ds.length) Sl.non) S with
  | .next _ S' => .ok .non S'
  | .ret d S' => .ok d S'
  | .exc e _ S' => .exc e S'
  | _ => .stuck := Eq.trans rfl rfl
@[simp] theorem x_clr0 : clr [] Γ = Γ := Eq.trans rfl rfl
@[simp] theorem x_clr1 {i : Nat} {r : List Nat} : clr (i :: r) Γ = clr r (Γ.set i .non) := Eq.trans rfl rfl
@[simp] theorem x_wipe0 : wipeD Γ [] = Γ := Eq.trans rfl rfl
@[simp] theorem x_wipe1 {i : Nat} {r : List Nat} : wipeD Γ (i :: r) = (wipeD Γ r).set i .non := Eq.trans rfl rfl
@[simp] theorem x_bnm {i : Nat} {d : D} : (Pat.nm i).bind d Γ = some (Γ.set i (.val d)) := by rw [Pat.bind]
@[simp] theorem x_btp {ps : List Pat} {ds : List D} : (Pat.tp ps).bind (.tup ds) Γ = Pat.binds ps ds Γ := by rw [Pat.bind]
@[simp] theorem x_bul {ps : List Pat} {ds : List D} : (Pat.ul ps).bind (.lst ds) Γ = Pat.binds ps ds Γ := by rw [Pat.bind]
@[simp] theorem x_bs0 : Pat.binds [] [] Γ = some Γ := by rw [Pat.binds]
@[simp] theorem x_bs1 {p : Pat} {ps : List Pat} {d : D} {ds : List D} : Pat.binds (p :: ps) (d :: ds) Γ = match p.bind d Γ with | some Γ' => Pat.binds ps ds Γ' | none => none := by
  rw [Pat.binds]; try (cases p.bind d Γ <;> rfl)
end
@[simp] theorem deref_non {S : List D} : deref S .non = .non := Eq.trans rfl rfl
@[simp] theorem deref_bl {S : List D} {b : Bool} : deref S (.bl b) = .bl b := Eq.trans rfl rfl
@[simp] theorem deref_int {S : List D} {b : Int} : deref S (.int b) = .int b := Eq.trans rfl rfl
@[simp] theorem deref_str {S : List D} {b : Str} : deref S (.str b) = .str b := Eq.trans rfl rfl
@[simp] theorem deref_lst {S : List D} {b : List D} : deref S (.lst b) = .lst b := Eq.trans rfl rfl
@[simp] theorem deref_tup {S : List D} {b : List D} : deref S (.tup b) = .tup b := Eq.trans rfl rfl
@[simp] theorem deref_dct {S : List D} {k : List Key} {b : List D} : deref S (.dct k b) = .dct k b := Eq.trans rfl rfl
@[simp] theorem deref_ins {S : List D} {c : Nat} {k : List Str} {b : List D} : deref S (.ins c k b) = .ins c k b := Eq.trans rfl rfl
@[simp] theorem deref_scr {S : List D} {b : List Int} : deref S (.scr b) = .scr b := Eq.trans rfl rfl
@[simp] theorem deref_ptr {S : List D} {k : Nat} : deref S (.ptr k) = match S[k]? with | some d => d | none => .ptr k := Eq.trans rfl rfl
@[simp] theorem onI_int {P : Int → Int → Bool} {g : Int → Int → Int} {i j : Int} : onI P g (.int i) (.int j) = if P i j then some (.int (g i j)) else none := Eq.trans rfl rfl
@[simp] theorem dOrd_int {p : Int → Int → Bool} {q : Str → Str → Bool} {i j : Int} : dOrd p q (.int i) (.int j) = some (.bl (p i j)) := Eq.trans rfl rfl
@[simp] theorem dOrd_str {p : Int → Int → Bool} {q : Str → Str → Bool} {i j : Str} : dOrd p q (.str i) (.str j) = some (.bl (q i j)) := Eq.trans rfl rfl
@[simp] theorem dAdd_int {i j : Int} : dAdd (.int i) (.int j) = some (.int (i + j)) := Eq.trans rfl rfl
@[simp] theorem dAddI_int {i j : Int} : dAddI (.int i) (.int j) = some (.int (i + j)) := Eq.trans rfl rfl
theorem dAdd_tup {a b : List D} (h : a.length + b.length ≤ 1000000) : dAdd (.tup a) (.tup b) = some (.tup (a ++ b)) := if_pos (Nat.le_trans h (by decide))
theorem dAdd_lst {a b : List D} (h : a.length + b.length ≤ 1000000) : dAdd (.lst a) (.lst b) = some (.lst (a ++ b)) := if_pos (Nat.le_trans h (by decide))
theorem onL_lst {a b : List D} (h : a.length + b.length ≤ 1000000) : onL (.lst a) (.lst b) = some (.lst (a ++ b)) := if_pos (Nat.le_trans h (by decide))
theorem dMul_int {i j : Int} (h : -(2 ^ 64) < j ∧ j < 2 ^ 64) : dMul (.int i) (.int j) = some (.int (i * j)) := if_pos (.inr h)
theorem dMul_intl {i j : Int} (h : -(2 ^ 64) < i ∧ i < 2 ^ 64) : dMul (.int i) (.int j) = some (.int (i * j)) := if_pos (.inl h)
@[simp] theorem x_fPow_18 : fPow (.int 10) (.int 18) = some (.int P18) := fPow_18
@[simp] theorem dInt_int {i : Int} : dInt (.int i) = some (.int i) := Eq.trans rfl rfl
@[simp] theorem dInt_bl {b : Bool} : dInt (.bl b) = some (.int (if b then 1 else 0)) := Eq.trans rfl rfl
@[simp] theorem dNeg_int {i : Int} : dNeg (.int i) = some (.int (-i)) := Eq.trans rfl rfl
@[simp] theorem dLen_lst {xs : List D} : dLen (.lst xs) = some (.int xs.length) := Eq.trans rfl rfl
@[simp] theorem dLen_tup {xs : List D} : dLen (.tup xs) = some (.int xs.length) := Eq.trans rfl rfl
@[simp] theorem dLen_scr {xs : List Int} : dLen (.scr xs) = some (.int xs.length) := Eq.trans rfl rfl
@[simp] theorem dIdx_lst {xs : List D} {i : Int} : dIdx (.lst xs) (.int i) = atI xs i := Eq.trans rfl rfl
@[simp] theorem dIdx_tup {xs : List D} {i : Int} : dIdx (.tup xs) (.int i) = atI xs i := Eq.trans rfl rfl
@[simp] theorem dIdx_scr {xs : List Int} {i : Int} : dIdx (.scr xs) (.int i) = (atI xs i).map .int := Eq.trans rfl rfl
@[simp] theorem dTruth_non : dTruth .non = some false := Eq.trans rfl rfl
@[simp] theorem dTruth_bl {b : Bool} : dTruth (.bl b) = some b := Eq.trans rfl rfl
@[simp] theorem dTruth_int {b : Int} : dTruth (.int b) = some (b != 0) := Eq.trans rfl rfl
@[simp] theorem dTruth_lst {b : List D} : dTruth (.lst b) = some (!b.isEmpty) := Eq.trans rfl rfl
@[simp] theorem dTruth_tup {b : List D} : dTruth (.tup b) = some (!b.isEmpty) := Eq.trans rfl rfl
@[simp] theorem dTuple_lst {b : List D} : dTuple (.lst b) = some (.tup b) := Eq.trans rfl rfl
@[simp] theorem dTuple_tup {b : List D} : dTuple (.tup b) = some (.tup b) := Eq.trans rfl rfl
@[simp] theorem dList_lst {b : List D} : dList (.lst b) = some (.lst b) := Eq.trans rfl rfl
@[simp] theorem dList_tup {b : List D} : dList (.tup b) = some (.lst b) := Eq.trans rfl rfl
@[simp] theorem dCut_lst {b : List D} {l h : Option Int} : dCut (.lst b) l h = some (.lst (cutD b l h)) := Eq.trans rfl rfl
@[simp] theorem dCut_tup {b : List D} {l h : Option Int} : dCut (.tup b) l h = some (.tup (cutD b l h)) := Eq.trans rfl rfl
@[simp] theorem onlyL_lst {b : List D} {l h : Option Int} : onlyL (.lst b) l h = some (.lst (cutD b l h)) := Eq.trans rfl rfl
@[simp] theorem items_lst {b : List D} : items (.lst b) = some b := Eq.trans rfl rfl
@[simp] theorem items_tup {b : List D} : items (.tup b) = some b := Eq.trans rfl rfl
@[simp] theorem dIsi_tup {b : List D} : dIsi "tuple" (.tup b) = some (.bl true) := by unfold dIsi tyN; rfl
theorem inR_of {i : Int} (h : -(2 ^ 62) ≤ i ∧ i < 2 ^ 62) : inR i = true := decide_eq_true h
theorem lenOk_of {ds : List D} (h : ds.length ≤ 1000000) : lenOk ds = some (.lst ds) := if_pos (Nat.le_trans h (by decide))
theorem atI_get? {α : Type} {xs : List α} {k : Nat} : atI xs (k : Int) = xs[k]? := by
  unfold atI ixN
  by_cases h : k < xs.length
  · rw [if_pos (by omega), if_pos (by omega)]; simp
  · rw [if_pos (by omega), if_neg (by omega), List.getElem?_eq_none (by omega)]; rfl
theorem atI_neg1 {α : Type} {xs : List α} : atI xs (-1) = xs.getLast? := by
  unfold atI ixN
  rw [if_neg (by omega)]
  by_cases h : 0 < xs.length
  · rw [if_pos (by omega)]
    have : (-1 + (xs.length : Int)).toNat = xs.length - 1 := by omega
    simp [this, List.getLast?_eq_getElem?]
  · have : xs = [] := List.eq_nil_of_length_eq_zero (by omega)
    subst this; rfl

/-! ### by what is wanted -/
def WR {α : Type} (r : Res α) (Q : α → List D → Prop) : Prop := match r with | .ok a S => Q a S | _ => False
def WO (o : Out) (N : List Sl → List D → Prop) (R : D → List D → Prop) : Prop := match o with
  | .next Γ S => N Γ S
  | .ret d S => R d S
  | _ => False
/-- a loop's turn: what goes on, what is returned, what breaks -/
def WT (o : Out) (N : List Sl → List D → Prop) (R : D → List D → Prop) (B : List Sl → List D → Prop) : Prop := match o with
  | .next Γ S => N Γ S
  | .cont Γ S => N Γ S
  | .brk Γ S => B Γ S
  | .ret d S => R d S
  | _ => False
theorem WR.ok {α : Type} {r : Res α} {Q : α → List D → Prop} (h : WR r Q) : ∃ a S, r = .ok a S ∧ Q a S := by
  cases r with
  | ok a S => exact ⟨a, S, rfl, h⟩
  | exc _ _ => exact h.elim
  | stuck => exact h.elim
theorem WO.mono {o : Out} {N N' : List Sl → List D → Prop} {R R' : D → List D → Prop} (h : WO o N R) (h1 : ∀ Γ S, N Γ S → N' Γ S) (h2 : ∀ d S, R d S → R' d S) : WO o N' R' := by
  cases o with
  | next _ _ => exact h1 _ _ h
  | ret _ _ => exact h2 _ _ h
  | _ => exact h
theorem WT.mono {o : Out} {N N' B B' : List Sl → List D → Prop} {R R' : D → List D → Prop} (h : WT o N R B) (h1 : ∀ Γ S, N Γ S → N' Γ S) (h2 : ∀ d S, R d S → R' d S) (h3 : ∀ Γ S, B Γ S → B' Γ S) : WT o N' R' B' := by
  cases o with
  | next _ _ => exact h1 _ _ h
  | cont _ _ => exact h1 _ _ h
  | brk _ _ => exact h3 _ _ h
  | ret _ _ => exact h2 _ _ h
  | _ => exact h
theorem forD_wp {p : Pat} {kl : List Nat} {β : Ds} {R : D → List D → Prop} {N : List Sl → List D → Prop} (I : Nat → List Sl → List D → Prop) : ∀ (xs : List D) (i : Nat) (Γ : List Sl) (S : List D), I i Γ S →
    (∀ j x Γ S, xs[j]? = some x → I (i + j) Γ S → ∃ Γ1, p.bind x Γ = some Γ1 ∧ WT (β Γ1 S) (fun Γ2 S2 => I (i + j + 1) (clr kl Γ2) S2) R (fun Γ2 S2 => N (clr kl Γ2) S2)) →
    (∀ Γ S, I (i + xs.length) Γ S → N Γ S) → WO (forD p kl β xs Γ S) N R
  | [], i, Γ, S, h, _, he => he Γ S h
  | x :: xs, i, Γ, S, h, hs, he => by
    obtain ⟨Γ1, hb, hw⟩ := hs 0 x Γ S rfl h
    rw [forD, hb]
    simp only
    have next : ∀ Γ2 S2, I (i + 0 + 1) (clr kl Γ2) S2 → WO (forD p kl β xs (clr kl Γ2) S2) N R := fun Γ2 S2 k =>
      forD_wp I xs (i + 1) _ S2 k (fun j y Γ S hy hI => by
        have := hs (j + 1) y Γ S (by simpa using hy) (by rw [show i + (j + 1) = i + 1 + j by omega]; exact hI)
        rw [show i + (j + 1) + 1 = i + 1 + j + 1 by omega] at this
        exact this) (fun Γ S hI => he Γ S (by rw [List.length_cons, show i + (xs.length + 1) = i + 1 + xs.length by omega]; exact hI))
    cases z : β Γ1 S with
    | next Γ2 S2 => rw [z] at hw; exact next Γ2 S2 hw
    | cont Γ2 S2 => rw [z] at hw; exact next Γ2 S2 hw
    | brk Γ2 S2 => rw [z] at hw; exact hw
    | ret d S2 => rw [z] at hw; exact hw
    | exc _ _ _ => rw [z] at hw; exact hw.elim
    | stuck => rw [z] at hw; exact hw.elim
/-- a comprehension whose elements are told one by one -/
theorem compD_map {p : Pat} {ε : De} {Γ : List Sl} {I : List D → Prop} {P : Nat → D → D → Prop} : ∀ (xs : List D) (i : Nat) (S : List D), I S →
    (∀ j x S, xs[j]? = some x → I S → ∃ Γ1 d S', p.bind x Γ = some Γ1 ∧ ε Γ1 S = .ok d S' ∧ I S' ∧ P (i + j) x d) →
    ∃ ds S', compD p tTrue ε xs Γ S = .ok ds S' ∧ I S' ∧ ds.length = xs.length ∧ ∀ (j : Nat) x d, xs[j]? = some x → ds[j]? = some d → P (i + j) x d
  | [], i, S, h, _ => ⟨[], S, rfl, h, rfl, fun j x d hx => by simp at hx⟩
  | x :: xs, i, S, h, hs => by
    obtain ⟨Γ1, d, S1, hb, he, hI, hP⟩ := hs 0 x S rfl h
    obtain ⟨ds, S2, h1, h2, h3, h4⟩ := compD_map xs (i + 1) S1 hI fun j y S hy hI => by
      have := hs (j + 1) y S (by simpa using hy) hI
      rw [show i + (j + 1) = i + 1 + j by omega] at this
      exact this
    refine ⟨d :: ds, S2, ?_, h2, by rw [List.length_cons, List.length_cons, h3], fun j y e hy hd => ?_⟩
    · rw [compD, hb]
      simp [he, h1]
    · cases j with
      | zero => simp at hy hd; subst hy hd; exact hP
      | succ j =>
        have := h4 j y e (by simpa using hy) (by simpa using hd)
        rw [show i + 1 + j = i + (j + 1) by omega] at this
        exact this
/-- a comprehension whose element is a function of the item -/
theorem compD_pure {p : Pat} {ε : De} {Γ : List Sl} {S : List D} {f : D → D} : ∀ (xs : List D), (∀ x ∈ xs, ∃ Γ1, p.bind x Γ = some Γ1 ∧ ε Γ1 S = .ok (f x) S) → compD p tTrue ε xs Γ S = .ok (xs.map f) S
  | [], _ => rfl
  | x :: xs, h => by
    obtain ⟨Γ1, hb, he⟩ := h x List.mem_cons_self
    rw [compD, hb]
    simp [he, compD_pure xs fun y hy => h y (List.mem_cons_of_mem _ hy)]
theorem rangeD_len {lo : Int} {n : Nat} : (rangeD lo n).length = n := by unfold rangeD; simp
theorem rangeD_get {lo : Int} {n j : Nat} {x : D} (h : (rangeD lo n)[j]? = some x) : j < n ∧ x = .int (lo + j) := by
  unfold rangeD at h
  rw [List.getElem?_map] at h
  by_cases hj : j < n
  · rw [List.getElem?_range hj] at h; cases h; exact ⟨hj, rfl⟩
  · rw [List.getElem?_eq_none (by simp; omega)] at h; cases h
theorem rangeD_mem {lo : Int} {n : Nat} {x : D} (h : x ∈ rangeD lo n) : ∃ j : Nat, j < n ∧ x = .int (lo + j) := by
  obtain ⟨j, hj⟩ := List.mem_iff_getElem?.mp h
  exact ⟨j, rangeD_get hj⟩
end DL

namespace DL
open PySem L2

/-! ### == of data without ints, without truth values -/
mutual
def okI : D → Bool
  | .non => true
  | .bl _ => true
  | .int _ => false
  | .str x => PyData.canLay0 (.str x)
  | .lst xs => okIs xs
  | .tup xs => okIs xs
  | .dct _ _ => false
  | .ins _ _ _ => false
  | .ptr _ => false
  | .scr _ => false
def okIs : List D → Bool
  | [] => true
  | x :: xs => okI x && okIs xs
end
mutual
def okB : D → Bool
  | .non => true
  | .bl _ => false
  | .int _ => true
  | .str x => PyData.canLay0 (.str x)
  | .lst xs => okBs xs
  | .tup xs => okBs xs
  | .dct _ _ => false
  | .ins _ _ _ => false
  | .ptr _ => false
  | .scr _ => false
def okBs : List D → Bool
  | [] => true
  | x :: xs => okB x && okBs xs
end
mutual
def dep : D → Nat
  | .lst xs => deps xs + 1
  | .tup xs => deps xs + 1
  | .non => 0
  | .bl _ => 0
  | .int _ => 0
  | .str _ => 0
  | .dct _ _ => 0
  | .ins _ _ _ => 0
  | .ptr _ => 0
  | .scr _ => 0
def deps : List D → Nat
  | [] => 0
  | x :: xs => max (dep x) (deps xs)
end
/-! any data -/
mutual
def okD : D → Bool
  | .non => true
  | .bl _ => true
  | .int _ => true
  | .str x => PyData.canLay0 (.str x)
  | .lst xs => okDs xs
  | .tup xs => okDs xs
  | .dct _ _ => false
  | .ins _ _ _ => false
  | .ptr _ => false
  | .scr _ => false
def okDs : List D → Bool
  | [] => true
  | x :: xs => okD x && okDs xs
end
mutual
theorem okD_py : ∀ (d : D), okD d = true → ∃ p, toPy d = some p ∧ p.canLay0 = true ∧ p.depth = dep d
  | .non, _ => ⟨_, by rw [toPy], by rw [PyData.canLay0], by rw [PyData.depth, dep]⟩
  | .bl _, _ => ⟨_, by rw [toPy], by rw [PyData.canLay0], by rw [PyData.depth, dep]⟩
  | .int _, _ => ⟨_, by rw [toPy], by rw [PyData.canLay0], by rw [PyData.depth, dep]⟩
  | .str x, h => ⟨_, by rw [toPy], by rw [okD] at h; exact h, by rw [PyData.depth, dep]⟩
  | .lst xs, h => by
    rw [okD] at h
    obtain ⟨ps, e, c, d⟩ := okDs_py xs h
    exact ⟨.list ps, by rw [toPy, e]; rfl, by rw [PyData.canLay0]; exact c, by rw [PyData.depth, dep, d]⟩
  | .tup xs, h => by
    rw [okD] at h
    obtain ⟨ps, e, c, d⟩ := okDs_py xs h
    exact ⟨.tuple ps, by rw [toPy, e]; rfl, by rw [PyData.canLay0]; exact c, by rw [PyData.depth, dep, d]⟩
  | .dct _ _, h => by rw [okD] at h; cases h
  | .ins _ _ _, h => by rw [okD] at h; cases h
  | .ptr _, h => by rw [okD] at h; cases h
  | .scr _, h => by rw [okD] at h; cases h
theorem okDs_py : ∀ (ds : List D), okDs ds = true → ∃ ps, toPys ds = some ps ∧ PyData.canLayAll0 ps = true ∧ PyData.depthAll ps = deps ds
  | [], _ => ⟨[], by rw [toPys], by rw [PyData.canLayAll0], by rw [PyData.depthAll, deps]⟩
  | x :: xs, h => by
    rw [okDs, Bool.and_eq_true] at h
    obtain ⟨p, e1, c1, d1⟩ := okD_py x h.1
    obtain ⟨ps, e2, c2, d2⟩ := okDs_py xs h.2
    exact ⟨p :: ps, by rw [toPys, e1, e2]; rfl, by rw [PyData.canLayAll0, c1, c2]; rfl, by rw [PyData.depthAll, deps, d1, d2]⟩
end
mutual
theorem okI_D : ∀ (d : D), okI d = true → okD d = true
  | .non, _ => by rw [okD]
  | .bl _, _ => by rw [okD]
  | .int _, h => by rw [okI] at h; cases h
  | .str x, h => by rw [okI] at h; rw [okD]; exact h
  | .lst xs, h => by rw [okI] at h; rw [okD]; exact okIs_D xs h
  | .tup xs, h => by rw [okI] at h; rw [okD]; exact okIs_D xs h
  | .dct _ _, h => by rw [okI] at h; cases h
  | .ins _ _ _, h => by rw [okI] at h; cases h
  | .ptr _, h => by rw [okI] at h; cases h
  | .scr _, h => by rw [okI] at h; cases h
theorem okIs_D : ∀ (d : List D), okIs d = true → okDs d = true
  | [], _ => by rw [okDs]
  | x :: xs, h => by
    rw [okIs, Bool.and_eq_true] at h
    rw [okDs, okI_D x h.1, okIs_D xs h.2]; rfl
end
mutual
theorem okB_D : ∀ (d : D), okB d = true → okD d = true
  | .non, _ => by rw [okD]
  | .int _, _ => by rw [okD]
  | .bl _, h => by rw [okB] at h; cases h
  | .str x, h => by rw [okB] at h; rw [okD]; exact h
  | .lst xs, h => by rw [okB] at h; rw [okD]; exact okBs_D xs h
  | .tup xs, h => by rw [okB] at h; rw [okD]; exact okBs_D xs h
  | .dct _ _, h => by rw [okB] at h; cases h
  | .ins _ _ _, h => by rw [okB] at h; cases h
  | .ptr _, h => by rw [okB] at h; cases h
  | .scr _, h => by rw [okB] at h; cases h
theorem okBs_D : ∀ (d : List D), okBs d = true → okDs d = true
  | [], _ => by rw [okDs]
  | x :: xs, h => by
    rw [okBs, Bool.and_eq_true] at h
    rw [okDs, okB_D x h.1, okBs_D xs h.2]; rfl
end
/-- the comparison's answer, by the two readings -/
def peq (d e : D) : Bool := match toPy d, toPy e with | some p, some q => PyData.eqv p q | _, _ => false
def peqs (d e : List D) : Bool := match toPys d, toPys e with | some p, some q => PyData.eqvAll p q | _, _ => false
theorem dEq_peqm {d e : D} (h1 : okD d = true) (h2 : okD e = true) (k : min (dep d) (dep e) ≤ 64) : dEq d e = some (peq d e) := by
  obtain ⟨p, e1, c1, d1⟩ := okD_py d h1
  obtain ⟨q, e2, c2, d2⟩ := okD_py e h2
  rcases dEq_cases d e with ⟨a, b, rfl, rfl, z⟩ | z
  · rw [z]; unfold peq; simp [toPy, PyData.eqv]
  · rw [z]
    unfold dEqP peq
    simp [e1, e2, c1, c2, show min p.depth q.depth ≤ 64 by omega]
theorem dEq_peq {d e : D} (h1 : okD d = true) (h2 : okD e = true) (k1 : dep d ≤ 64) (k2 : dep e ≤ 64) : dEq d e = some (peq d e) := dEq_peqm h1 h2 (by omega)
theorem peq_tup {xs ys : List D} (h1 : okDs xs = true) (h2 : okDs ys = true) : peq (.tup xs) (.tup ys) = peqs xs ys := by
  obtain ⟨p, e1, _, _⟩ := okDs_py xs h1
  obtain ⟨q, e2, _, _⟩ := okDs_py ys h2
  unfold peq peqs
  rw [toPy, toPy, e1, e2]
  simp [PyData.eqv]
theorem peq_lst {xs ys : List D} (h1 : okDs xs = true) (h2 : okDs ys = true) : peq (.lst xs) (.lst ys) = peqs xs ys := by
  obtain ⟨p, e1, _, _⟩ := okDs_py xs h1
  obtain ⟨q, e2, _, _⟩ := okDs_py ys h2
  unfold peq peqs
  rw [toPy, toPy, e1, e2]
  simp [PyData.eqv]
theorem peqs_nil : peqs [] [] = true := by unfold peqs; simp [toPys, PyData.eqvAll]
theorem peqs_cons {x y : D} {xs ys : List D} (h1 : okD x = true) (h2 : okD y = true) (k1 : okDs xs = true) (k2 : okDs ys = true) : peqs (x :: xs) (y :: ys) = (peq x y && peqs xs ys) := by
  obtain ⟨p, e1, _, _⟩ := okD_py x h1
  obtain ⟨q, e2, _, _⟩ := okD_py y h2
  obtain ⟨ps, e3, _, _⟩ := okDs_py xs k1
  obtain ⟨qs, e4, _, _⟩ := okDs_py ys k2
  unfold peq peqs
  rw [toPys, toPys, e1, e2, e3, e4]
  simp [PyData.eqvAll]
theorem peqs_nc {y : D} {ys : List D} (h2 : okD y = true) (k2 : okDs ys = true) : peqs [] (y :: ys) = false := by
  obtain ⟨q, e2, _, _⟩ := okD_py y h2
  obtain ⟨qs, e4, _, _⟩ := okDs_py ys k2
  unfold peqs
  rw [toPys, toPys, e2, e4]
  simp [PyData.eqvAll]
theorem peqs_cn {y : D} {ys : List D} (h2 : okD y = true) (k2 : okDs ys = true) : peqs (y :: ys) [] = false := by
  obtain ⟨q, e2, _, _⟩ := okD_py y h2
  obtain ⟨qs, e4, _, _⟩ := okDs_py ys k2
  unfold peqs
  rw [toPys, toPys, e2, e4]
  simp [PyData.eqvAll]
theorem peq_bl {a b : Bool} : peq (.bl a) (.bl b) = (a == b) := by unfold peq; simp [toPy, PyData.eqv]
theorem peq_int {a b : Int} : peq (.int a) (.int b) = (a == b) := by unfold peq; simp [toPy, PyData.eqv]
theorem peq_str {a b : Str} : peq (.str a) (.str b) = (a == b) := by unfold peq; simp [toPy, PyData.eqv]
theorem peq_lt {xs ys : List D} : peq (.lst xs) (.tup ys) = false := by
  simp only [peq, toPy]; cases toPys xs <;> cases toPys ys <;> simp [PyData.eqv]
theorem peq_tl {xs ys : List D} : peq (.tup xs) (.lst ys) = false := by
  simp only [peq, toPy]; cases toPys xs <;> cases toPys ys <;> simp [PyData.eqv]
def flatI : D → Bool | .non => true | .bl _ => true | .int _ => true | .str _ => true | _ => false
theorem peq_lf {xs : List D} {e : D} (h : flatI e = true) : peq (.lst xs) e = false := by
  cases e <;> first | (cases h; done) | (simp only [peq, toPy]; cases toPys xs <;> simp [PyData.eqv])
theorem peq_tf {xs : List D} {e : D} (h : flatI e = true) : peq (.tup xs) e = false := by
  cases e <;> first | (cases h; done) | (simp only [peq, toPy]; cases toPys xs <;> simp [PyData.eqv])
theorem peq_fl {xs : List D} {e : D} (h : flatI e = true) : peq e (.lst xs) = false := by
  cases e <;> first | (cases h; done) | (simp only [peq, toPy]; cases toPys xs <;> simp [PyData.eqv])
theorem peq_ft {xs : List D} {e : D} (h : flatI e = true) : peq e (.tup xs) = false := by
  cases e <;> first | (cases h; done) | (simp only [peq, toPy]; cases toPys xs <;> simp [PyData.eqv])
mutual
theorem peq_I : ∀ (d e : D), okI d = true → okI e = true → (peq d e = true ↔ d = e)
  | .int _, _, h, _ => by rw [okI] at h; cases h
  | .dct _ _, _, h, _ => by rw [okI] at h; cases h
  | .ins _ _ _, _, h, _ => by rw [okI] at h; cases h
  | .ptr _, _, h, _ => by rw [okI] at h; cases h
  | .scr _, _, h, _ => by rw [okI] at h; cases h
  | .lst xs, .lst ys, h, k => by
    rw [okI] at h k
    rw [peq_lst (okIs_D _ h) (okIs_D _ k), peqs_I xs ys h k]; simp
  | .tup xs, .tup ys, h, k => by
    rw [okI] at h k
    rw [peq_tup (okIs_D _ h) (okIs_D _ k), peqs_I xs ys h k]; simp
  | .lst xs, .tup ys, h, k => by rw [peq_lt]; simp
  | .tup xs, .lst ys, h, k => by rw [peq_tl]; simp
  | .lst xs, e, h, k => by
    cases e <;> first | (rw [okI] at k; cases k; done) | (rw [peq_lf rfl]; simp; done) | (rw [peq_lt]; simp; done) | (rw [okI] at h k; rw [peq_lst (okIs_D _ h) (okIs_D _ k), peqs_I xs _ h k]; simp)
  | .tup xs, e, h, k => by
    cases e <;> first | (rw [okI] at k; cases k; done) | (rw [peq_tf rfl]; simp; done) | (rw [peq_tl]; simp; done) | (rw [okI] at h k; rw [peq_tup (okIs_D _ h) (okIs_D _ k), peqs_I xs _ h k]; simp)
  | .non, e, h, k => by
    cases e <;> first | (rw [okI] at k; cases k; done) | (rw [peq_fl rfl]; simp; done) | (rw [peq_ft rfl]; simp; done) | (simp [peq, toPy, PyData.eqv])
  | .bl _, e, h, k => by
    cases e <;> first | (rw [okI] at k; cases k; done) | (rw [peq_fl rfl]; simp; done) | (rw [peq_ft rfl]; simp; done) | (simp [peq, toPy, PyData.eqv])
  | .str _, e, h, k => by
    cases e <;> first | (rw [okI] at k; cases k; done) | (rw [peq_fl rfl]; simp; done) | (rw [peq_ft rfl]; simp; done) | (simp [peq, toPy, PyData.eqv])
theorem peqs_I : ∀ (d e : List D), okIs d = true → okIs e = true → (peqs d e = true ↔ d = e)
  | [], [], _, _ => by rw [peqs_nil]; simp
  | [], y :: ys, _, k => by
    rw [okIs, Bool.and_eq_true] at k
    rw [peqs_nc (okI_D _ k.1) (okIs_D _ k.2)]; simp
  | y :: ys, [], k, _ => by
    rw [okIs, Bool.and_eq_true] at k
    rw [peqs_cn (okI_D _ k.1) (okIs_D _ k.2)]; simp
  | x :: xs, y :: ys, h, k => by
    rw [okIs, Bool.and_eq_true] at h k
    rw [peqs_cons (okI_D _ h.1) (okI_D _ k.1) (okIs_D _ h.2) (okIs_D _ k.2), Bool.and_eq_true, peq_I x y h.1 k.1, peqs_I xs ys h.2 k.2]
    simp
end
mutual
theorem peq_B : ∀ (d e : D), okB d = true → okB e = true → (peq d e = true ↔ d = e)
  | .bl _, _, h, _ => by rw [okB] at h; cases h
  | .dct _ _, _, h, _ => by rw [okB] at h; cases h
  | .ins _ _ _, _, h, _ => by rw [okB] at h; cases h
  | .ptr _, _, h, _ => by rw [okB] at h; cases h
  | .scr _, _, h, _ => by rw [okB] at h; cases h
  | .lst xs, .lst ys, h, k => by
    rw [okB] at h k
    rw [peq_lst (okBs_D _ h) (okBs_D _ k), peqs_B xs ys h k]; simp
  | .tup xs, .tup ys, h, k => by
    rw [okB] at h k
    rw [peq_tup (okBs_D _ h) (okBs_D _ k), peqs_B xs ys h k]; simp
  | .lst xs, .tup ys, h, k => by rw [peq_lt]; simp
  | .tup xs, .lst ys, h, k => by rw [peq_tl]; simp
  | .lst xs, e, h, k => by
    cases e <;> first | (rw [okB] at k; cases k; done) | (rw [peq_lf rfl]; simp; done) | (rw [peq_lt]; simp; done) | (rw [okB] at h k; rw [peq_lst (okBs_D _ h) (okBs_D _ k), peqs_B xs _ h k]; simp)
  | .tup xs, e, h, k => by
    cases e <;> first | (rw [okB] at k; cases k; done) | (rw [peq_tf rfl]; simp; done) | (rw [peq_tl]; simp; done) | (rw [okB] at h k; rw [peq_tup (okBs_D _ h) (okBs_D _ k), peqs_B xs _ h k]; simp)
  | .non, e, h, k => by
    cases e <;> first | (rw [okB] at k; cases k; done) | (rw [peq_fl rfl]; simp; done) | (rw [peq_ft rfl]; simp; done) | (simp [peq, toPy, PyData.eqv])
  | .int _, e, h, k => by
    cases e <;> first | (rw [okB] at k; cases k; done) | (rw [peq_fl rfl]; simp; done) | (rw [peq_ft rfl]; simp; done) | (simp [peq, toPy, PyData.eqv])
  | .str _, e, h, k => by
    cases e <;> first | (rw [okB] at k; cases k; done) | (rw [peq_fl rfl]; simp; done) | (rw [peq_ft rfl]; simp; done) | (simp [peq, toPy, PyData.eqv])
theorem peqs_B : ∀ (d e : List D), okBs d = true → okBs e = true → (peqs d e = true ↔ d = e)
  | [], [], _, _ => by rw [peqs_nil]; simp
  | [], y :: ys, _, k => by
    rw [okBs, Bool.and_eq_true] at k
    rw [peqs_nc (okB_D _ k.1) (okBs_D _ k.2)]; simp
  | y :: ys, [], k, _ => by
    rw [okBs, Bool.and_eq_true] at k
    rw [peqs_cn (okB_D _ k.1) (okBs_D _ k.2)]; simp
  | x :: xs, y :: ys, h, k => by
    rw [okBs, Bool.and_eq_true] at h k
    rw [peqs_cons (okB_D _ h.1) (okB_D _ k.1) (okBs_D _ h.2) (okBs_D _ k.2), Bool.and_eq_true, peq_B x y h.1 k.1, peqs_B xs ys h.2 k.2]
    simp
end

/-- == of two such data -/
theorem dEq_I {d e : D} [Decidable (d = e)] (h1 : okI d = true) (h2 : okI e = true) (k1 : dep d ≤ 64) (k2 : dep e ≤ 64) : dEq d e = some (decide (d = e)) := by
  rw [dEq_peq (okI_D _ h1) (okI_D _ h2) k1 k2]
  congr 1
  rw [Bool.eq_iff_iff, peq_I d e h1 h2, decide_eq_true_iff]
theorem dEq_Bm {d e : D} [Decidable (d = e)] (h1 : okB d = true) (h2 : okB e = true) (k : min (dep d) (dep e) ≤ 64) : dEq d e = some (decide (d = e)) := by
  rw [dEq_peqm (okB_D _ h1) (okB_D _ h2) k]
  congr 1
  rw [Bool.eq_iff_iff, peq_B d e h1 h2, decide_eq_true_iff]
theorem dEq_B {d e : D} [Decidable (d = e)] (h1 : okB d = true) (h2 : okB e = true) (k1 : dep d ≤ 64) (k2 : dep e ≤ 64) : dEq d e = some (decide (d = e)) := dEq_Bm h1 h2 (by omega)
end DL

namespace DL
open PySem L2
@[simp] theorem x_sRevO {i : Nat} {Γ : List Sl} {S : List D} : sRevO i Γ S = match Γ[i]? with
  | some (.own (.lst xs)) => .next (Γ.set i (.own (.lst xs.reverse))) S
  | _ => .stuck := Eq.trans rfl rfl
@[simp] theorem dAbs_int {i : Int} : dAbs (.int i) = some (.int (if i < 0 then -i else i)) := Eq.trans rfl rfl
@[simp] theorem dMax_int {i j : Int} : dMax (.int i) (.int j) = some (.int (if j > i then j else i)) := Eq.trans rfl rfl
@[simp] theorem dMin_int {i j : Int} : dMin (.int i) (.int j) = some (.int (if j < i then j else i)) := Eq.trans rfl rfl
theorem asInts_map (l : List Int) : asInts (l.map D.int) = some l := by
  induction l with
  | nil => rfl
  | cons x r ih => rw [List.map_cons, asInts, ih]; rfl
theorem dSum_map (l : List Int) : dSum (.lst (l.map D.int)) = some (.int l.sum) := by
  show (asInts (l.map D.int)).map (fun l => D.int l.sum) = _; rw [asInts_map]; rfl
@[simp] theorem x_eChain {f g : D → D → Option D} {a b c : De} {Γ : List Sl} {S : List D} : eChain f g a b c Γ S = (a Γ S).bind fun x S1 => (b Γ S1).bind fun y S2 => (ofO (f (deref S2 x) (deref S2 y)) S2).bind fun k S3 => match asB k with
  | some true => (c Γ S3).bind fun z S4 => ofO (g (deref S4 y) (deref S4 z)) S4
  | some false => .ok (.bl false) S3
  | none => .stuck := Eq.trans rfl rfl
@[simp] theorem dEq_str {a b : Str} : dEq (.str a) (.str b) = some (a == b) := Eq.trans rfl rfl
@[simp] theorem cEq_str {a b : Str} : cEq (.str a) (.str b) = some (.bl (a == b)) := Eq.trans rfl rfl
@[simp] theorem cNe_str {a b : Str} : cNe (.str a) (.str b) = some (.bl (!(a == b))) := Eq.trans rfl rfl
theorem dEq_int' (a b : Int) : dEq (.int a) (.int b) = some (a == b) := by
  rw [dEq_peq (by rw [okD]) (by rw [okD]) (by rw [dep]; decide) (by rw [dep]; decide), peq_int]
theorem dEq_bl' (a b : Bool) : dEq (.bl a) (.bl b) = some (a == b) := by
  rw [dEq_peq (by rw [okD]) (by rw [okD]) (by rw [dep]; decide) (by rw [dep]; decide), peq_bl]
@[simp] theorem cEq_i2 (a b : Int) : cEq (.int a) (.int b) = some (.bl (a == b)) := by unfold cEq; rw [dEq_int']; rfl
@[simp] theorem cNe_i2 (a b : Int) : cNe (.int a) (.int b) = some (.bl (a != b)) := by unfold cNe; rw [dEq_int']; rfl
@[simp] theorem cEq_b2 (a b : Bool) : cEq (.bl a) (.bl b) = some (.bl (a == b)) := by unfold cEq; rw [dEq_bl']; rfl
@[simp] theorem cNe_b2 (a b : Bool) : cNe (.bl a) (.bl b) = some (.bl (a != b)) := by unfold cNe; rw [dEq_bl']; rfl
/-- a place drawn -/
theorem pick {xs : List D} {r : Int} (h0 : 0 ≤ r) (h1 : r < xs.length) : ∃ d ∈ xs, atI xs r = some d := by
  obtain ⟨k, rfl⟩ : ∃ k : Nat, r = (k : Int) := ⟨r.toNat, by omega⟩
  have hk : k < xs.length := by omega
  exact ⟨xs[k], List.getElem_mem hk, by rw [atI_get?, List.getElem?_eq_getElem hk]⟩
theorem pickS {xs : List Str} {r : Int} (h0 : 0 ≤ r) (h1 : r < xs.length) : ∃ x ∈ xs, atI (xs.map D.str) r = some (.str x) := by
  obtain ⟨d, hd, e⟩ := pick (xs := xs.map D.str) h0 (by rw [List.length_map]; exact h1)
  obtain ⟨x, hx, rfl⟩ := List.mem_map.mp hd
  exact ⟨x, hx, e⟩
theorem pickI {xs : List Int} {r : Int} (h0 : 0 ≤ r) (h1 : r < xs.length) : ∃ x ∈ xs, atI (xs.map D.int) r = some (.int x) := by
  obtain ⟨d, hd, e⟩ := pick (xs := xs.map D.int) h0 (by rw [List.length_map]; exact h1)
  obtain ⟨x, hx, rfl⟩ := List.mem_map.mp hd
  exact ⟨x, hx, e⟩
theorem dEq_same {d : D} (h : okB d = true) (k : dep d ≤ 64) : dEq d d = some true := by
  haveI : Decidable (d = d) := .isTrue rfl
  rw [dEq_B h h k k]
  exact congrArg some (decide_eq_true rfl)
end DL

namespace DL
open PySem L2
/-! ### messages as data -/
inductive Ky where
  | i (n : Int) | s (x : Str)
def eK : Ky → D
  | .i n => .int n
  | .s x => .str x
mutual
inductive Nd where
  | text (x : Str) | shw (n : Str) | num
  | sel (n : Str) (cs : List Cs) (o : List Nd)
  | plu (n : Str) (f : Int) (cs : List Cs) (o : List Nd)
inductive Cs where
  | mk (k : Ky) (m : List Nd)
end
mutual
def eN : Nd → D
  | .text x => .tup [.str "text", .str x]
  | .shw n => .tup [.str "show", .str n]
  | .num => .tup [.str "number"]
  | .sel n cs o => .tup [.str "select", .str n, .lst (eCs cs), .lst (eL o)]
  | .plu n f cs o => .tup [.str "plural", .str n, .int f, .lst (eCs cs), .lst (eL o)]
def eL : List Nd → List D
  | [] => []
  | n :: r => eN n :: eL r
def eC1 : Cs → D
  | .mk k m => .tup [eK k, .lst (eL m)]
def eCs : List Cs → List D
  | [] => []
  | c :: r => eC1 c :: eCs r
end
theorem eL_map (m : List Nd) : eL m = m.map eN := by
  induction m with
  | nil => rw [eL]; rfl
  | cons n r ih => rw [eL, ih]; rfl
theorem eCs_map (m : List Cs) : eCs m = m.map eC1 := by
  induction m with
  | nil => rw [eCs]; rfl
  | cons n r ih => rw [eCs, ih]; rfl
@[simp] theorem eL_nil : eL [] = [] := by rw [eL]
@[simp] theorem eCs_nil : eCs [] = [] := by rw [eCs]
@[simp] theorem eL_len (m : List Nd) : (eL m).length = m.length := by rw [eL_map, List.length_map]
@[simp] theorem eCs_len (m : List Cs) : (eCs m).length = m.length := by rw [eCs_map, List.length_map]
theorem eL_app (a b : List Nd) : eL (a ++ b) = eL a ++ eL b := by simp only [eL_map, List.map_append]
theorem eCs_app (a b : List Cs) : eCs (a ++ b) = eCs a ++ eCs b := by simp only [eCs_map, List.map_append]
theorem eCs_rev (a : List Cs) : (eCs a).reverse = eCs a.reverse := by simp only [eCs_map, List.map_reverse]
theorem eL_one (n : Nd) : eL [n] = [eN n] := by rw [eL, eL]
theorem eCs_one (n : Cs) : eCs [n] = [eC1 n] := by rw [eCs, eCs]
/-! ### what a message must be -/
def sOk (x : Str) : Bool := PyData.canLay0 (.str x)
def iOk (i : Int) : Bool := decide (i.natAbs < 2 ^ 64)
def kOk : Ky → Bool
  | .i n => iOk n
  | .s x => sOk x
mutual
def nOk : Nd → Bool
  | .text x => sOk x
  | .shw n => sOk n
  | .num => true
  | .sel n cs o => sOk n && csOk cs && lOk o
  | .plu n f cs o => sOk n && iOk f && csOk cs && lOk o
def lOk : List Nd → Bool
  | [] => true
  | n :: r => nOk n && lOk r
def cOk : Cs → Bool
  | .mk k m => kOk k && lOk m
def csOk : List Cs → Bool
  | [] => true
  | c :: r => cOk c && csOk r
end
/-! how deep -/
mutual
def nH : Nd → Nat
  | .sel _ cs o => max (csH cs) (lH o) + 1
  | .plu _ _ cs o => max (csH cs) (lH o) + 1
  | .text _ => 0
  | .shw _ => 0
  | .num => 0
def lH : List Nd → Nat
  | [] => 0
  | n :: r => max (nH n) (lH r)
def cH : Cs → Nat
  | .mk _ m => lH m
def csH : List Cs → Nat
  | [] => 0
  | c :: r => max (cH c) (csH r)
end
/-! how great -/
def kW : Ky → Nat
  | .i n => (toString n : Str).length
  | .s x => 10 * x.length + 2
mutual
def nW : Nd → Nat
  | .text x => 10 * x.length + 40
  | .shw n => 10 * n.length + 40
  | .num => 40
  | .sel n cs o => 10 * n.length + csW cs + lW o + 60
  | .plu n f cs o => 10 * n.length + (toString f : Str).length + csW cs + lW o + 60
def lW : List Nd → Nat
  | [] => 0
  | n :: r => nW n + lW r
def cW : Cs → Nat
  | .mk k m => kW k + lW m + 20
def csW : List Cs → Nat
  | [] => 0
  | c :: r => cW c + csW r
end
theorem lOk_app (a b : List Nd) : lOk (a ++ b) = (lOk a && lOk b) := by
  induction a with
  | nil => simp [lOk]
  | cons n r ih => rw [List.cons_append, lOk, lOk, ih, Bool.and_assoc]
theorem csOk_app (a b : List Cs) : csOk (a ++ b) = (csOk a && csOk b) := by
  induction a with
  | nil => simp [csOk]
  | cons n r ih => rw [List.cons_append, csOk, csOk, ih, Bool.and_assoc]
theorem lH_app (a b : List Nd) : lH (a ++ b) = max (lH a) (lH b) := by
  induction a with
  | nil => simp [lH]
  | cons n r ih => rw [List.cons_append, lH, lH, ih, Nat.max_assoc]
theorem csH_app (a b : List Cs) : csH (a ++ b) = max (csH a) (csH b) := by
  induction a with
  | nil => simp [csH]
  | cons n r ih => rw [List.cons_append, csH, csH, ih, Nat.max_assoc]
theorem lW_app (a b : List Nd) : lW (a ++ b) = lW a + lW b := by
  induction a with
  | nil => simp [lW]
  | cons n r ih => rw [List.cons_append, lW, lW, ih, Nat.add_assoc]
theorem csW_app (a b : List Cs) : csW (a ++ b) = csW a + csW b := by
  induction a with
  | nil => simp [csW]
  | cons n r ih => rw [List.cons_append, csW, csW, ih, Nat.add_assoc]
theorem nW_pos (n : Nd) : 40 ≤ nW n := by cases n <;> rw [nW] <;> omega
theorem cW_pos (n : Cs) : 20 ≤ cW n := by cases n; rw [cW]; omega
theorem lW_len (m : List Nd) : 40 * m.length ≤ lW m := by
  induction m with
  | nil => simp
  | cons n r ih => rw [lW, List.length_cons]; have := nW_pos n; omega
theorem csW_len (m : List Cs) : 20 * m.length ≤ csW m := by
  induction m with
  | nil => simp
  | cons n r ih => rw [csW, List.length_cons]; have := cW_pos n; omega
theorem kOk_B (k : Ky) (h : kOk k = true) : okB (eK k) = true := by
  cases k with
  | i n => rw [eK, okB]
  | s x => rw [eK, okB]; exact h
theorem kDep (k : Ky) : dep (eK k) = 0 := by cases k <;> rw [eK, dep]
theorem text_ok : PyData.canLay0 (.str "text") = true := by decide +kernel
theorem show_ok : PyData.canLay0 (.str "show") = true := by decide +kernel
theorem number_ok : PyData.canLay0 (.str "number") = true := by decide +kernel
theorem select_ok : PyData.canLay0 (.str "select") = true := by decide +kernel
theorem plural_ok : PyData.canLay0 (.str "plural") = true := by decide +kernel
mutual
theorem nOk_B : ∀ n : Nd, nOk n = true → okB (eN n) = true
  | .text x, h => by rw [nOk] at h; simp [eN, okB, okBs, text_ok]; exact h
  | .shw x, h => by rw [nOk] at h; simp [eN, okB, okBs, show_ok]; exact h
  | .num, _ => by simp [eN, okB, okBs, number_ok]
  | .sel n cs o, h => by
    rw [nOk, Bool.and_eq_true, Bool.and_eq_true] at h
    simp [eN, okB, okBs, select_ok, csOk_B cs h.1.2, lOk_B o h.2]; exact h.1.1
  | .plu n f cs o, h => by
    rw [nOk, Bool.and_eq_true, Bool.and_eq_true, Bool.and_eq_true] at h
    simp [eN, okB, okBs, plural_ok, csOk_B cs h.1.2, lOk_B o h.2]; exact h.1.1.1
theorem lOk_B : ∀ m : List Nd, lOk m = true → okBs (eL m) = true
  | [], _ => by rw [eL, okBs]
  | n :: r, h => by
    rw [lOk, Bool.and_eq_true] at h
    rw [eL, okBs, nOk_B n h.1, lOk_B r h.2]; rfl
theorem cOk_B : ∀ c : Cs, cOk c = true → okB (eC1 c) = true
  | .mk k m, h => by
    rw [cOk, Bool.and_eq_true] at h
    simp [eC1, okB, okBs, kOk_B k h.1, lOk_B m h.2]
theorem csOk_B : ∀ m : List Cs, csOk m = true → okBs (eCs m) = true
  | [], _ => by rw [eCs, okBs]
  | n :: r, h => by
    rw [csOk, Bool.and_eq_true] at h
    rw [eCs, okBs, cOk_B n h.1, csOk_B r h.2]; rfl
end
mutual
theorem nDep : ∀ n : Nd, dep (eN n) ≤ 4 * nH n + 1
  | .text x => by simp [eN, dep, deps]
  | .shw x => by simp [eN, dep, deps]
  | .num => by simp [eN, dep, deps]
  | .sel n cs o => by
    have h1 := csDep cs
    have h2 := lDep o
    simp only [eN, dep, deps, nH]
    omega
  | .plu n f cs o => by
    have h1 := csDep cs
    have h2 := lDep o
    simp only [eN, dep, deps, nH]
    omega
theorem lDep : ∀ m : List Nd, deps (eL m) ≤ 4 * lH m + 1
  | [] => by simp [eL, deps]
  | n :: r => by
    have h1 := nDep n
    have h2 := lDep r
    simp only [eL, deps, lH]
    omega
theorem cDep : ∀ c : Cs, dep (eC1 c) ≤ 4 * cH c + 3
  | .mk k m => by
    have h2 := lDep m
    have := kDep k
    simp only [eC1, dep, deps, cH]
    omega
theorem csDep : ∀ m : List Cs, deps (eCs m) ≤ 4 * csH m + 3
  | [] => by simp [eCs, deps]
  | n :: r => by
    have h1 := cDep n
    have h2 := csDep r
    simp only [eCs, deps, csH]
    omega
end
end DL

namespace DL
open PySem L2
/-! ### how long a repr is -/
mutual
def shW : D → Nat
  | .non => 4
  | .bl _ => 5
  | .int i => (toString i : Str).length
  | .str x => 10 * x.length + 2
  | .lst xs => shWs xs + 2
  | .tup xs => shWs xs + 2
  | .dct _ _ => 0
  | .ins _ _ _ => 0
  | .ptr _ => 0
  | .scr _ => 0
def shWs : List D → Nat
  | [] => 0
  | x :: xs => shW x + 2 + shWs xs
end
mutual
def okR : D → Bool
  | .non => true
  | .bl _ => true
  | .int i => decide (i.natAbs < 2 ^ 64)
  | .str x => PyData.canLay0 (.str x)
  | .lst xs => okRs xs
  | .tup xs => okRs xs
  | .dct _ _ => false
  | .ins _ _ _ => false
  | .ptr _ => false
  | .scr _ => false
def okRs : List D → Bool
  | [] => true
  | x :: xs => okR x && okRs xs
end
def tot : List Str → Nat
  | [] => 0
  | t :: r => t.length + 2 + tot r
theorem textFrom_tot : ∀ (ts : List Str) (k : Nat) (acc : Str), (textFrom k acc ts).length ≤ acc.length + tot ts
  | [], _, acc => by rw [textFrom, tot]; omega
  | t :: r, k, acc => by
    rw [textFrom, tot]
    have ih := textFrom_tot r (k + 1) (acc ++ (if k > 0 then ", " else "" : String) ++ t)
    have e : (acc ++ ((if k > 0 then ", " else "" : String) : Str) ++ t).length = acc.length + ((if k > 0 then ", " else "" : String) : Str).length + t.length := by
      rw [strLen_append, strLen_append]
    have e2 : (((if k > 0 then ", " else "" : String) : Str)).length ≤ 2 := by split <;> decide
    omega
theorem join_tot : ∀ (ts : List Str), (Str.join ", " ts).length ≤ tot ts
  | [] => by show (0 : Nat) ≤ _; exact Nat.zero_le _
  | [t] => by
    have e : Str.join ", " [t] = t := rfl
    rw [e, tot, tot]; omega
  | t :: u :: r => by
    have ih := join_tot (u :: r)
    have e : Str.join ", " (t :: u :: r) = t ++ ", " ++ Str.join ", " (u :: r) := rfl
    rw [e, strLen_append, strLen_append, tot]
    have e2 : ((", " : String) : Str).length = 2 := rfl
    omega
theorem list_tot (ts : List Str) : (listText ts).length ≤ tot ts + 2 := by
  unfold listText
  rw [strLen_append]
  have h := textFrom_tot ts 0 "["
  have e1 : (("[" : String) : Str).length = 1 := rfl
  have e2 : (("]" : String) : Str).length = 1 := rfl
  omega
theorem tuple_tot (ts : List Str) : (tupleText ts).length ≤ tot ts + 2 := by
  unfold tupleText
  rw [strLen_append, strLen_append]
  have e1 : (("(" : String) : Str).length = 1 := rfl
  rw [e1]
  match ts with
  | [] => decide
  | [t] =>
    have e : Str.join ", " [t] = t := rfl
    have e2 : (((if [t].length == 1 then ",)" else ")" : String) : Str)).length = 2 := rfl
    rw [e, e2, tot, tot]; omega
  | t :: u :: r =>
    have h := join_tot (t :: u :: r)
    have e2 : (((if (t :: u :: r).length == 1 then ",)" else ")" : String) : Str)).length ≤ 1 := by
      have : ((t :: u :: r).length == 1) = false := by simp
      rw [this]; decide
    omega
theorem log_lt {n : Nat} (h : n < 2 ^ 64) : n.log2 < 1920 := by
  by_cases z : n = 0
  · subst z; decide
  · exact Nat.lt_of_lt_of_le ((Nat.log2_lt z).mpr h) (by decide)
theorem str_sh {x : Str} (h : PyData.canLay0 (.str x) = true) : (reprText x).length ≤ 10 * x.length + 2 := by
  refine _root_.PySem.StrLaws.reprText_len x fun c hc => ?_
  rw [PyData.canLay0] at h
  have h2 : x.cps.all (fun k => decide (k < 0x110000)) = true := h
  rw [← Array.all_toList, List.all_eq_true] at h2
  have := h2 c hc
  rw [decide_eq_true_iff] at this
  exact Nat.lt_trans this (by decide)
mutual
theorem okR_py : ∀ d : D, okR d = true → ∃ p, toPy d = some p ∧ p.showable = true ∧ p.hasDict = false ∧ p.depth = dep d ∧ p.shown.length ≤ shW d
  | .non, _ => ⟨.none, by rw [toPy], by rw [PyData.showable], by rw [PyData.hasDict], by rw [PyData.depth, dep], by rw [PyData.shown, shW]; decide⟩
  | .bl b, _ => ⟨.bool b, by rw [toPy], by rw [PyData.showable], by rw [PyData.hasDict], by rw [PyData.depth, dep], by rw [PyData.shown, shW]; cases b <;> decide⟩
  | .int i, h => ⟨.int i, by rw [toPy], by rw [okR, decide_eq_true_iff] at h; rw [PyData.showable, decide_eq_true_iff]; exact log_lt h, by rw [PyData.hasDict], by rw [PyData.depth, dep], by rw [PyData.shown, shW]; exact Nat.le_refl _⟩
  | .str x, h => ⟨.str x, by rw [toPy], by rw [PyData.showable], by rw [PyData.hasDict], by rw [PyData.depth, dep], by rw [okR] at h; rw [PyData.shown, shW]; exact str_sh h⟩
  | .lst xs, h => by
    rw [okR] at h
    obtain ⟨ps, e, a, b, c, d⟩ := okRs_py xs h
    exact ⟨.list ps, by rw [toPy, e]; rfl, by rw [PyData.showable]; exact a, by rw [PyData.hasDict]; exact b, by rw [PyData.depth, dep, c], by rw [PyData.shown, shW]; exact Nat.le_trans (list_tot _) (by omega)⟩
  | .tup xs, h => by
    rw [okR] at h
    obtain ⟨ps, e, a, b, c, d⟩ := okRs_py xs h
    exact ⟨.tuple ps, by rw [toPy, e]; rfl, by rw [PyData.showable]; exact a, by rw [PyData.hasDict]; exact b, by rw [PyData.depth, dep, c], by rw [PyData.shown, shW]; exact Nat.le_trans (tuple_tot _) (by omega)⟩
  | .dct _ _, h => by rw [okR] at h; cases h
  | .ins _ _ _, h => by rw [okR] at h; cases h
  | .ptr _, h => by rw [okR] at h; cases h
  | .scr _, h => by rw [okR] at h; cases h
theorem okRs_py : ∀ ds : List D, okRs ds = true → ∃ ps, toPys ds = some ps ∧ PyData.showableAll ps = true ∧ PyData.hasDictAll ps = false ∧ PyData.depthAll ps = deps ds ∧ tot (PyData.shownAll ps) ≤ shWs ds
  | [], _ => ⟨[], by rw [toPys], by rw [PyData.showableAll], by rw [PyData.hasDictAll], by rw [PyData.depthAll, deps], by rw [PyData.shownAll, tot]; exact Nat.zero_le _⟩
  | x :: xs, h => by
    rw [okRs, Bool.and_eq_true] at h
    obtain ⟨p, e1, a1, b1, c1, d1⟩ := okR_py x h.1
    obtain ⟨ps, e2, a2, b2, c2, d2⟩ := okRs_py xs h.2
    exact ⟨p :: ps, by rw [toPys, e1, e2]; rfl, by rw [PyData.showableAll, a1, a2]; rfl, by rw [PyData.hasDictAll, b1, b2]; rfl, by rw [PyData.depthAll, deps, c1, c2], by rw [PyData.shownAll, tot, shWs]; omega⟩
end
theorem dRepr_ok {d : D} (sq : isSq d = true) (h : okR d = true) (hd : dep d ≤ 180) (hw : shW d ≤ sizeLine) : ∃ t, dRepr d = some (.str t) := by
  obtain ⟨p, e, a, b, c, l⟩ := okR_py d h
  refine ⟨p.shown, ?_⟩
  unfold dRepr
  rw [e]
  simp only
  rw [if_pos ⟨sq, a, b, by omega, by omega⟩]
/-! messages -/
theorem kOk_R (k : Ky) (h : kOk k = true) : okR (eK k) = true := by
  cases k with
  | i n => rw [eK, okR]; exact h
  | s x => rw [eK, okR]; exact h
mutual
theorem nOk_R : ∀ n : Nd, nOk n = true → okR (eN n) = true
  | .text x, h => by rw [nOk] at h; simp [eN, okR, okRs, text_ok]; exact h
  | .shw x, h => by rw [nOk] at h; simp [eN, okR, okRs, show_ok]; exact h
  | .num, _ => by simp [eN, okR, okRs, number_ok]
  | .sel n cs o, h => by
    rw [nOk, Bool.and_eq_true, Bool.and_eq_true] at h
    simp [eN, okR, okRs, select_ok, csOk_R cs h.1.2, lOk_R o h.2]; exact h.1.1
  | .plu n f cs o, h => by
    rw [nOk, Bool.and_eq_true, Bool.and_eq_true, Bool.and_eq_true] at h
    have hf := h.1.1.2
    unfold iOk at hf
    rw [eN, okR, okRs, okRs, okRs, okRs, okRs, okRs, okR, okR, okR, okR, okR, plural_ok, hf, csOk_R cs h.1.2, lOk_R o h.2]
    show (true && (PyData.canLay0 (.str n) && _)) = true
    rw [show PyData.canLay0 (.str n) = true from h.1.1.1]; rfl
theorem lOk_R : ∀ m : List Nd, lOk m = true → okRs (eL m) = true
  | [], _ => by rw [eL, okRs]
  | n :: r, h => by
    rw [lOk, Bool.and_eq_true] at h
    rw [eL, okRs, nOk_R n h.1, lOk_R r h.2]; rfl
theorem cOk_R : ∀ c : Cs, cOk c = true → okR (eC1 c) = true
  | .mk k m, h => by
    rw [cOk, Bool.and_eq_true] at h
    simp [eC1, okR, okRs, kOk_R k h.1, lOk_R m h.2]
theorem csOk_R : ∀ m : List Cs, csOk m = true → okRs (eCs m) = true
  | [], _ => by rw [eCs, okRs]
  | n :: r, h => by
    rw [csOk, Bool.and_eq_true] at h
    rw [eCs, okRs, cOk_R n h.1, csOk_R r h.2]; rfl
end
theorem kW_sh (k : Ky) : shW (eK k) = kW k := by cases k <;> rw [eK, shW, kW]
theorem l_text : ("text" : Str).length = 4 := by decide +kernel
theorem l_show : ("show" : Str).length = 4 := by decide +kernel
theorem l_number : ("number" : Str).length = 6 := by decide +kernel
theorem l_select : ("select" : Str).length = 6 := by decide +kernel
theorem l_plural : ("plural" : Str).length = 6 := by decide +kernel
mutual
theorem nW_sh : ∀ n : Nd, shW (eN n) + 2 ≤ 3 * nW n
  | .text x => by simp only [eN, shW, shWs, nW, l_text]; omega
  | .shw x => by simp only [eN, shW, shWs, nW, l_show]; omega
  | .num => by simp only [eN, shW, shWs, nW, l_number]; omega
  | .sel n cs o => by
    have h1 := csW_sh cs
    have h2 := lW_sh o
    simp only [eN, shW, shWs, nW, l_select]; omega
  | .plu n f cs o => by
    have h1 := csW_sh cs
    have h2 := lW_sh o
    simp only [eN, shW, shWs, nW, l_plural]; omega
theorem lW_sh : ∀ m : List Nd, shWs (eL m) ≤ 3 * lW m
  | [] => by simp [eL, shWs]
  | n :: r => by
    have h1 := nW_sh n
    have h2 := lW_sh r
    have := nW_pos n
    simp only [eL, shWs, lW]; omega
theorem cW_sh : ∀ c : Cs, shW (eC1 c) + 2 ≤ 3 * cW c
  | .mk k m => by
    have h2 := lW_sh m
    have := kW_sh k
    simp only [eC1, shW, shWs, cW]; omega
theorem csW_sh : ∀ m : List Cs, shWs (eCs m) ≤ 3 * csW m
  | [] => by simp [eCs, shWs]
  | n :: r => by
    have h1 := cW_sh n
    have h2 := csW_sh r
    simp only [eCs, shWs, csW]; omega
end
theorem msg_repr {m : List Nd} (h : lOk m = true) (hh : lH m ≤ 10) (hw : lW m ≤ 5000000) : ∃ t, dRepr (.lst (eL m)) = some (.str t) := by
  refine dRepr_ok rfl (by rw [okR]; exact lOk_R m h) ?_ ?_
  · have := lDep m
    rw [dep]; omega
  · have := lW_sh m
    rw [shW]; show _ ≤ 16777216; omega
theorem msg_same {m : List Nd} (h : lOk m = true) (hh : lH m ≤ 10) : dEq (.lst (eL m)) (.lst (eL m)) = some true := by
  refine dEq_same (by rw [okB]; exact lOk_B m h) ?_
  have := lDep m
  rw [dep]; omega
end DL

namespace DL
open PySem L2
/-! ### messages in plain form -/
def isT : Nd → Bool
  | .text _ => true
  | _ => false
def lastT (m : List Nd) : Bool := match m.getLast? with
  | some n => isT n
  | none => false
/-- one node behind what was found -/
def plS (acc : List Nd) (n : Nd) (n' : Nd) : List Nd := match n with
  | .text x => match acc.getLast? with
    | some (.text y) => acc.dropLast ++ [.text (y ++ x)]
    | _ => if x = "" then acc else acc ++ [.text x]
  | _ => acc ++ [n']
mutual
def plN : Nd → Nd
  | .text x => .text x
  | .shw n => .shw n
  | .num => .num
  | .sel n cs o => .sel n (plCs cs) (plA [] o)
  | .plu n f cs o => .plu n f (plCs cs) (plA [] o)
def plA : List Nd → List Nd → List Nd
  | acc, [] => acc
  | acc, n :: r => plA (plS acc n (plN n)) r
def plC : Cs → Cs
  | .mk k m => .mk k (plA [] m)
def plCs : List Cs → List Cs
  | [] => []
  | c :: r => plC c :: plCs r
end
theorem plCs_map (m : List Cs) : plCs m = m.map plC := by
  induction m with
  | nil => rw [plCs]; rfl
  | cons n r ih => rw [plCs, ih]; rfl
theorem plA_app (acc a b : List Nd) : plA acc (a ++ b) = plA (plA acc a) b := by
  induction a generalizing acc with
  | nil => rw [List.nil_append, plA]
  | cons n r ih => rw [List.cons_append, plA, plA, ih]
/-! the plain ones -/
mutual
def gN : Nd → Prop
  | .text x => x ≠ ""
  | .shw _ => True
  | .num => True
  | .sel _ cs o => gCs cs ∧ gL o
  | .plu _ _ cs o => gCs cs ∧ gL o
def gL : List Nd → Prop
  | [] => True
  | n :: r => gN n ∧ gL r ∧ (isT n = true → ∀ y, r.head? = some y → isT y = false)
def gC : Cs → Prop
  | .mk _ m => gL m
def gCs : List Cs → Prop
  | [] => True
  | c :: r => gC c ∧ gCs r
end
theorem gL_snoc {m : List Nd} {n : Nd} (h : gL m) (hn : gN n) (hl : lastT m = true → isT n = false) : gL (m ++ [n]) := by
  induction m with
  | nil => rw [List.nil_append, gL]; exact ⟨hn, by rw [gL]; trivial, fun _ y z => by cases z⟩
  | cons x r ih =>
    rw [gL] at h
    obtain ⟨h1, h2, h3⟩ := h
    rw [List.cons_append, gL]
    refine ⟨h1, ih h2 fun z => hl ?_, fun z y hy => ?_⟩
    · cases r with
      | nil => exact (show false = true from z) |> fun w => by cases w
      | cons a b => exact z
    · cases r with
      | nil =>
        cases hy
        exact hl z
      | cons a b => exact h3 z y hy
theorem gCs_snoc {m : List Cs} {c : Cs} (h : gCs m) (hc : gC c) : gCs (m ++ [c]) := by
  induction m with
  | nil => rw [List.nil_append, gCs]; exact ⟨hc, by rw [gCs]; trivial⟩
  | cons x r ih => rw [gCs] at h; rw [List.cons_append, gCs]; exact ⟨h.1, ih h.2⟩
theorem gCs_rev {m : List Cs} (h : gCs m) : gCs m.reverse := by
  induction m with
  | nil => exact h
  | cons x r ih => rw [gCs] at h; rw [List.reverse_cons]; exact gCs_snoc (ih h.2) h.1
theorem gL_left {a b : List Nd} (h : gL (a ++ b)) : gL a := by
  induction a with
  | nil => rw [gL]; trivial
  | cons x r ih =>
    rw [List.cons_append, gL] at h
    obtain ⟨h1, h2, h3⟩ := h
    rw [gL]
    exact ⟨h1, ih h2, fun z y hy => h3 z y (by cases r with | nil => cases hy | cons a b => exact hy)⟩
theorem gL_mid {a b : List Nd} {n : Nd} (h : gL (a ++ n :: b)) : gN n ∧ (lastT a = true → isT n = false) := by
  induction a with
  | nil => rw [List.nil_append, gL] at h; exact ⟨h.1, fun z => by cases z⟩
  | cons x r ih =>
    rw [List.cons_append, gL] at h
    obtain ⟨h1, h2, h3⟩ := h
    refine ⟨(ih h2).1, fun z => ?_⟩
    cases r with
    | nil => exact h3 z n rfl
    | cons a b => exact (ih h2).2 z
theorem lastT_snoc (a : List Nd) (n : Nd) : lastT (a ++ [n]) = isT n := by unfold lastT; rw [List.getLast?_concat]
theorem str_app_nil (y : Str) : y ++ ("" : Str) = y := by
  show Str.append y "" = y
  obtain ⟨a⟩ := y
  show (⟨a ++ #[]⟩ : Str) = ⟨a⟩
  rw [Array.append_empty]
theorem plS_plain {acc : List Nd} {n : Nd} (hn : gN n) (hl : lastT acc = true → isT n = false) : plS acc n n = acc ++ [n] := by
  cases n with
  | text x =>
    rw [gN] at hn
    unfold plS
    cases q : acc.getLast? with
    | none => simp only; rw [if_neg hn]
    | some l =>
      cases l with
      | text y => exact absurd (hl (by unfold lastT; rw [q]; rfl)) (by simp [isT])
      | _ => simp only; rw [if_neg hn]
  | _ => rfl
/-- an empty text makes no difference -/
theorem plS_nil (n n' : Nd) : plS [] n n' = match n with | .text x => if x = "" then [] else [.text x] | _ => [n'] := by
  cases n <;> rfl
theorem plS_concat (a : List Nd) (l n n' : Nd) : plS (a ++ [l]) n n' = match n, l with
    | .text x, .text y => a ++ [.text (y ++ x)]
    | .text x, _ => if x = "" then a ++ [l] else a ++ [l] ++ [.text x]
    | _, _ => a ++ [l] ++ [n'] := by
  cases n <;> try rfl
  unfold plS
  rw [List.getLast?_concat]
  cases l <;> simp
theorem plS_empty (acc : List Nd) (n' : Nd) : plS acc (.text "") n' = acc := by
  rcases List.eq_nil_or_concat acc with rfl | ⟨a, l, rfl⟩
  · rfl
  · rw [List.concat_eq_append, plS_concat]
    cases l <;> simp [str_app_nil]
mutual
theorem plN_same : ∀ n : Nd, gN n → plN n = n
  | .text x, _ => by rw [plN]
  | .shw n, _ => by rw [plN]
  | .num, _ => by rw [plN]
  | .sel n cs o, h => by
    rw [gN] at h
    rw [plN, plCs_same cs h.1, plA_same [] o (by rw [List.nil_append]; exact h.2)]; rfl
  | .plu n f cs o, h => by
    rw [gN] at h
    rw [plN, plCs_same cs h.1, plA_same [] o (by rw [List.nil_append]; exact h.2)]; rfl
theorem plA_same : ∀ (acc m : List Nd), gL (acc ++ m) → plA acc m = acc ++ m
  | acc, [], _ => by rw [plA, List.append_nil]
  | acc, n :: r, h => by
    obtain ⟨h1, h2⟩ := gL_mid h
    rw [plA, plN_same n h1, plS_plain h1 h2, plA_same (acc ++ [n]) r (by rw [List.append_assoc]; exact h), List.append_assoc]; rfl
theorem plC_same : ∀ c : Cs, gC c → plC c = c
  | .mk k m, h => by
    rw [gC] at h
    rw [plC, plA_same [] m (by rw [List.nil_append]; exact h)]; rfl
theorem plCs_same : ∀ m : List Cs, gCs m → plCs m = m
  | [], _ => by rw [plCs]
  | c :: r, h => by
    rw [gCs] at h
    rw [plCs, plC_same c h.1, plCs_same r h.2]
end
end DL

namespace DL
open PySem L2
theorem x_sPutO {i : Nat} {k e : De} {Γ : List Sl} {S : List D} : sPutO i k e Γ S = after (e Γ S) Γ fun d S1 => match Γ[i]? with
  | some (.own (.dct _ _)) => after (k Γ S1) Γ fun x S2 => match Γ[i]?, keyD x with
    | some (.own (.dct ks xs)), some q => if xs.length < sizeLine then .next (Γ.set i (.own (.dct (dPut ks xs q d).1 (dPut ks xs q d).2))) S2 else .stuck
    | _, _ => .stuck
  | _ => .stuck := Eq.trans rfl rfl
@[simp] theorem x_eDct0 {Γ : List Sl} {S : List D} : eDct0 Γ S = .ok (.dct [] []) S := Eq.trans rfl rfl
@[simp] theorem x_sRaise {c : Nat} {fld : Str} {e : De} {Γ : List Sl} {S : List D} : sRaise c fld e Γ S = after (e Γ S) Γ fun d S1 => if shOk d = true then .exc ⟨c, [fld], [d]⟩ Γ S1 else .stuck := Eq.trans rfl rfl
@[simp] theorem x_eDComp {α : Da} {p : Pat} {vs : List Nat} {t : Dt} {a b : De} {Γ : List Sl} {S : List D} : eDComp α p vs t a b Γ S = (α Γ S).bind fun xs S1 => (dcompD p t a b xs (wipeD Γ vs) S1 ([], [])).bind fun a S2 => .ok (.dct a.1 a.2) S2 := Eq.trans rfl rfl
@[simp] theorem x_sTry {i : Option Nat} {f : Nat → Option Bool} {b h : Ds} {Γ : List Sl} {S : List D} : sTry i f b h Γ S = match b Γ S with
  | .exc e Γ1 S1 => match f e.c with
    | some true => if noX Γ1 then unx i (h (setxD i e Γ1) S1) else .stuck
    | some false => .exc e Γ1 S1
    | none => .stuck
  | o => o := Eq.trans rfl rfl
@[simp] theorem x_eIsX {i : Nat} {f : Nat → Option Bool} {Γ : List Sl} {S : List D} : eIsX i f Γ S = match Γ[i]? with
  | some (.xcp x) => ofO ((f x.c).map .bl) S
  | _ => .stuck := Eq.trans rfl rfl
@[simp] theorem x_eXf {i : Nat} {f : Str} {g : Nat → Bool} {Γ : List Sl} {S : List D} : eXf i f g Γ S = match Γ[i]? with
  | some (.xcp x) => if g x.c = true then ofO ((x.ns.zip x.fs).lookup f) S else .stuck
  | _ => .stuck := Eq.trans rfl rfl
@[simp] theorem x_eGet1 {a b : De} {Γ : List Sl} {S : List D} : eGet1 a b Γ S = (a Γ S).bind fun x S1 => if isDct (deref S1 x) = true then (b Γ S1).bind fun y S2 => ofO (dGet1 (deref S2 x) y) S2 else .stuck := Eq.trans rfl rfl
end DL

namespace DL
open PySem L2
@[simp] theorem x_eAtt {f : Str} {g : Nat → Bool} {a : De} {Γ : List Sl} {S : List D} : eAtt f g a Γ S = (a Γ S).bind fun x S1 => match deref S1 x with
  | .ins c ns xs => if g c = true then ofO ((ns.zip xs).lookup f) S1 else .stuck
  | _ => .stuck := Eq.trans rfl rfl
@[simp] theorem x_sAtt {f : Str} {g : Nat → Bool} {o e : De} {Γ : List Sl} {S : List D} : sAtt f g o e Γ S = after (e Γ S) Γ fun d S1 => after (o Γ S1) Γ fun x S2 => match x with
  | .ptr q => match S2[q]? with
    | some (.ins c ns xs) => if g c = true ∧ ns.length < 900 then .next Γ (S2.set q (.ins c (putD f d ns xs).1 (putD f d ns xs).2)) else .stuck
    | _ => .stuck
  | _ => .stuck := Eq.trans rfl rfl
@[simp] theorem x_sAppP {o e : De} {Γ : List Sl} {S : List D} : sAppP o e Γ S = after (o Γ S) Γ fun x S1 => match deref S1 x with
  | .lst _ => after (e Γ S1) Γ fun d S2 => match x with
    | .ptr q => match S2[q]? with
      | some (.lst xs) => if xs.length < sizeLine then .next Γ (S2.set q (.lst (xs ++ [d]))) else .stuck
      | _ => .stuck
    | _ => .stuck
  | _ => .stuck := Eq.trans rfl rfl
@[simp] theorem x_sPopP {o : De} {Γ : List Sl} {S : List D} : sPopP o Γ S = after (o Γ S) Γ fun x S1 => match x with
  | .ptr q => match S1[q]? with
    | some (.lst xs) => if xs ≠ [] then .next Γ (S1.set q (.lst xs.dropLast)) else .stuck
    | _ => .stuck
  | _ => .stuck := Eq.trans rfl rfl
@[simp] theorem x_sPutP {o k e : De} {Γ : List Sl} {S : List D} : sPutP o k e Γ S = after (e Γ S) Γ fun d S1 => after (o Γ S1) Γ fun x S2 => after (k Γ S2) Γ fun y S3 => match x with
  | .ptr q => match S3[q]?, keyD y with
    | some (.dct ks xs), some kk => if xs.length < sizeLine then .next Γ (S3.set q (.dct (dPut ks xs kk d).1 (dPut ks xs kk d).2)) else .stuck
    | _, _ => .stuck
  | _ => .stuck := Eq.trans rfl rfl
@[simp] theorem x_sDelP {o k : De} {Γ : List Sl} {S : List D} : sDelP o k Γ S = after (o Γ S) Γ fun x S1 => after (k Γ S1) Γ fun y S2 => match x with
  | .ptr q => match S2[q]?, keyD y with
    | some (.dct ks xs), some kk => if (dGet ks xs kk).isSome = true then .next Γ (S2.set q (.dct (dDropX kk ks xs).1 (dDropX kk ks xs).2)) else .stuck
    | _, _ => .stuck
  | _ => .stuck := Eq.trans rfl rfl
@[simp] theorem x_eMeth {c : Nat} {m : Str} {F : List D → List D → Res D} {o : De} {α : Da} {Γ : List Sl} {S : List D} : eMeth c m F o α Γ S = (o Γ S).bind fun x S1 => match deref S1 x with
  | .ins c' ns _ => if c' = c ∧ ns.contains m = false then (α Γ S1).bind fun ds S2 => F (x :: ds) S2 else .stuck
  | _ => .stuck := Eq.trans rfl rfl
@[simp] theorem x_eMake {c : Nat} {F : List D → List D → Res D} {α : Da} {Γ : List Sl} {S : List D} : eMake c F α Γ S = (α Γ S).bind fun ds S1 => (F (.ptr S1.length :: ds) (S1 ++ [.ins c [] []])).bind fun d S2 => if isNon d = true then .ok (.ptr S1.length) S2 else .stuck := Eq.trans rfl rfl
@[simp] theorem x_sTryN {hs : List (Nat × (Nat → Option Bool) × Ds)} {b : Ds} {Γ : List Sl} {S : List D} : sTryN hs b Γ S = match b Γ S with
  | .exc e Γ1 S1 => catchD hs e Γ1 S1
  | o => o := Eq.trans rfl rfl
@[simp] theorem x_catch0 {e : Exn} {Γ : List Sl} {S : List D} : catchD [] e Γ S = .exc e Γ S := Eq.trans rfl rfl
@[simp] theorem x_catch {i : Nat} {f : Nat → Option Bool} {h : Ds} {r : List (Nat × (Nat → Option Bool) × Ds)} {e : Exn} {Γ : List Sl} {S : List D} : catchD ((i, f, h) :: r) e Γ S = match f e.c with
  | some true => if noX Γ then unx (some i) (h (Γ.set i (.xcp e)) S) else .stuck
  | some false => catchD r e Γ S
  | none => .stuck := Eq.trans rfl rfl
@[simp] theorem x_sPopO {i j : Nat} {k : De} {Γ : List Sl} {S : List D} : sPopO i j k Γ S = match Γ[j]? with
  | some (.own (.dct _ _)) => after (k Γ S) Γ fun y S1 => match Γ[j]?, keyD y with
    | some (.own (.dct ks xs)), some q => match dGet ks xs q with
      | some d => .next ((Γ.set j (.own (.dct (dDropX q ks xs).1 (dDropX q ks xs).2))).set i (.val d)) S1
      | none => .stuck
    | _, _ => .stuck
  | _ => .stuck := Eq.trans rfl rfl
@[simp] theorem x_sPop2P {o k x : De} {Γ : List Sl} {S : List D} : sPop2P o k x Γ S = after (o Γ S) Γ fun v S1 => if isDct (deref S1 v) = true then after (k Γ S1) Γ fun y S2 => after (x Γ S2) Γ fun _ S3 => match v with
  | .ptr q => match S3[q]?, keyD y with
    | some (.dct ks xs), some kk => if (dGet ks xs kk).isSome = true then .next Γ (S3.set q (.dct (dDropX kk ks xs).1 (dDropX kk ks xs).2)) else .next Γ S3
    | _, _ => .stuck
  | _ => .stuck else .stuck := Eq.trans rfl rfl
theorem x_sForKL {i : Nat} {p : Pat} {kl : List Nat} {β : Ds} {Γ : List Sl} {S : List D} : sForKL i p kl β Γ S = noXc (sFor (iKL i) p kl β Γ S) := Eq.trans rfl rfl
theorem x_iKL {i q : Nat} {ds : List D} {ks : List Key} {xs : List D} {Γ : List Sl} {S : List D} (h1 : Γ[i]? = some (.val (.ptr q))) (h2 : S[q]? = some (.lst ds)) (h3 : ds.getLast? = some (.dct ks xs)) : iKL i Γ S = .ok (ks.map keyK) S := by
  unfold iKL; rw [h1]; simp only; rw [h2]; simp only; rw [h3]
@[simp] theorem dListA_dct (ks : List Key) (xs : List D) : dListA (.dct ks xs) = some (.lst (ks.map keyK)) := Eq.trans rfl rfl
@[simp] theorem dDictA_dct (ks : List Key) (xs : List D) : dDictA (.dct ks xs) = some (.dct ks xs) := Eq.trans rfl rfl
@[simp] theorem cInA_dct {k : D} {q : Key} {ks : List Key} {xs : List D} (h : keyD k = some q) : cInA k (.dct ks xs) = some (.bl (dGet ks xs q).isSome) := by
  unfold cInA cInK; rw [h]; rfl
@[simp] theorem cNotInA_dct {k : D} {q : Key} {ks : List Key} {xs : List D} (h : keyD k = some q) : cNotInA k (.dct ks xs) = some (.bl (!(dGet ks xs q).isSome)) := by
  unfold cNotInA cNotInK; rw [h]; rfl
@[simp] theorem dStr_int {i : Int} : dStr (.int i) = if i.natAbs.log2 < 1920 then some (.str (toString i)) else none := Eq.trans rfl rfl
@[simp] theorem dStr_str {z : Str} : dStr (.str z) = some (.str z) := Eq.trans rfl rfl
@[simp] theorem x_isStr {z : Str} : isStr (.str z) = true := Eq.trans rfl rfl
@[simp] theorem x_eJoin {a b : De} {Γ : List Sl} {S : List D} : eJoin a b Γ S = (a Γ S).bind fun x S1 => if isStr x = true then (b Γ S1).bind fun y S2 => ofO (dJoin x (deref S2 y)) S2 else .stuck := Eq.trans rfl rfl
@[simp] theorem dJoin_lst {z : Str} {xs : List D} : dJoin (.str z) (.lst xs) = match asStrs xs with
  | some l => if (l.map (·.length)).sum + l.length * z.length ≤ 16777216 then some (.str (Txt.join z l)) else none
  | none => none := Eq.trans rfl rfl
@[simp] theorem x_eSt3 {a b c : De} {Γ : List Sl} {S : List D} : eSt3 a b c Γ S = (a Γ S).bind fun x S1 => if isStr x = true then (b Γ S1).bind fun y S2 => (c Γ S2).bind fun z S3 => ofO (dSt3 x y z) S3 else .stuck := Eq.trans rfl rfl
@[simp] theorem dSt3_str {a b : Str} {i : Int} : dSt3 (.str a) (.str b) (.int i) = some (.bl (Txt.startswith3 a b i)) := Eq.trans rfl rfl
@[simp] theorem x_sAttA {f : Str} {g : Nat → Bool} {o e : De} {Γ : List Sl} {S : List D} : sAttA f g o e Γ S = after (o Γ S) Γ fun x S1 => match x with
  | .ptr q => match S1[q]? with
    | some (.ins c ns xs) => if g c = true then match (ns.zip xs).lookup f with
      | some (.int i) => after (e Γ S1) Γ fun y S2 => match y, S2[q]? with
        | .int j, some (.ins c' ns' xs') => if c' = c ∧ ns'.length < 900 then .next Γ (S2.set q (.ins c' (putD f (.int (i + j)) ns' xs').1 (putD f (.int (i + j)) ns' xs').2)) else .stuck
        | _, _ => .stuck
      | _ => .stuck
      else .stuck
    | _ => .stuck
  | _ => .stuck := Eq.trans rfl rfl
end DL

namespace PV
section
open PySem PySem.Spec PyProof.Rows L2 DL
/-! the text -/
def topS (i : Nat) : Stmt := PySem.Challenge.pw_messageways_k04_notations_that_end_too_e.main.body.getD i (.Pass ⟨0, 0, 0, 0⟩)
abbrev s_1 : Stmt := topS 13  -- cases_of
abbrev N_1 : List Str := ["node"]
theorem sc_1 : FnScope N_1 ["node"] (defScope s_1) := ⟨rfl, rfl, rfl, by decide +kernel, rfl, by decide +kernel, by decide +kernel⟩
abbrev s_2 : Stmt := topS 14  -- other_of
abbrev N_2 : List Str := ["node"]
theorem sc_2 : FnScope N_2 ["node"] (defScope s_2) := ⟨rfl, rfl, rfl, by decide +kernel, rfl, by decide +kernel, by decide +kernel⟩
abbrev s_4 : Stmt := topS 15  -- plain_node
abbrev N_4 : List Str := ["node", "cases", "key", "message"]
theorem sc_4 : FnScope N_4 ["node"] (defScope s_4) := ⟨rfl, rfl, rfl, by decide +kernel, rfl, by decide +kernel, by decide +kernel⟩
abbrev s_5 : Stmt := topS 16  -- plain
abbrev N_5 : List Str := ["message", "found", "node"]
theorem sc_5 : FnScope N_5 ["message"] (defScope s_5) := ⟨rfl, rfl, rfl, by decide +kernel, rfl, by decide +kernel, by decide +kernel⟩
abbrev s_50 : Stmt := topS 27  -- format_text
abbrev N_50 : List Str := ["text", "found", "sign"]
theorem sc_50 : FnScope N_50 ["text"] (defScope s_50) := ⟨rfl, rfl, rfl, by decide +kernel, rfl, by decide +kernel, by decide +kernel⟩
abbrev s_55 : Stmt := topS 28  -- is_sign
abbrev N_55 : List Str := ["sign"]
theorem sc_55 : FnScope N_55 ["sign"] (defScope s_55) := ⟨rfl, rfl, rfl, by decide +kernel, rfl, by decide +kernel, by decide +kernel⟩
abbrev s_56 : Stmt := clsSt (topS 29) 0  -- Reader.__init__
abbrev N_56 : List Str := ["self", "text"]
theorem sc_56 : FnScope N_56 ["self", "text"] (defScope s_56) := ⟨rfl, rfl, rfl, by decide +kernel, rfl, by decide +kernel, by decide +kernel⟩
abbrev s_57 : Stmt := clsSt (topS 29) 1  -- Reader.sign
abbrev N_57 : List Str := ["self"]
theorem sc_57 : FnScope N_57 ["self"] (defScope s_57) := ⟨rfl, rfl, rfl, by decide +kernel, rfl, by decide +kernel, by decide +kernel⟩
abbrev s_58 : Stmt := clsSt (topS 29) 2  -- Reader.skip
abbrev N_58 : List Str := ["self"]
theorem sc_58 : FnScope N_58 ["self"] (defScope s_58) := ⟨rfl, rfl, rfl, by decide +kernel, rfl, by decide +kernel, by decide +kernel⟩
abbrev s_59 : Stmt := clsSt (topS 29) 3  -- Reader.expect
abbrev N_59 : List Str := ["self", "sign"]
theorem sc_59 : FnScope N_59 ["self", "sign"] (defScope s_59) := ⟨rfl, rfl, rfl, by decide +kernel, rfl, by decide +kernel, by decide +kernel⟩
abbrev s_60 : Stmt := clsSt (topS 29) 4  -- Reader.run
abbrev N_60 : List Str := ["self", "signs", "begin"]
theorem sc_60 : FnScope N_60 ["self", "signs"] (defScope s_60) := ⟨rfl, rfl, rfl, by decide +kernel, rfl, by decide +kernel, by decide +kernel⟩
abbrev s_61 : Stmt := clsSt (topS 29) 5  -- Reader.word
abbrev N_61 : List Str := ["self", "word", "begin"]
theorem sc_61 : FnScope N_61 ["self"] (defScope s_61) := ⟨rfl, rfl, rfl, by decide +kernel, rfl, by decide +kernel, by decide +kernel⟩
abbrev s_62 : Stmt := clsSt (topS 29) 6  -- Reader.natural
abbrev N_62 : List Str := ["self", "most", "begin", "word"]
theorem sc_62 : FnScope N_62 ["self", "most"] (defScope s_62) := ⟨rfl, rfl, rfl, by decide +kernel, rfl, by decide +kernel, by decide +kernel⟩
abbrev s_63 : Stmt := clsSt (topS 29) 7  -- Reader.offset
abbrev N_63 : List Str := ["self"]
theorem sc_63 : FnScope N_63 ["self"] (defScope s_63) := ⟨rfl, rfl, rfl, by decide +kernel, rfl, by decide +kernel, by decide +kernel⟩
abbrev s_64 : Stmt := clsSt (topS 29) 8  -- Reader.key
abbrev N_64 : List Str := ["self", "kind", "begin", "word"]
theorem sc_64 : FnScope N_64 ["self", "kind"] (defScope s_64) := ⟨rfl, rfl, rfl, by decide +kernel, rfl, by decide +kernel, by decide +kernel⟩
abbrev s_65 : Stmt := clsSt (topS 29) 9  -- Reader.choice
abbrev N_65 : List Str := ["self", "name", "kind", "head", "cases", "key", "begin", "message", "other"]
theorem sc_65 : FnScope N_65 ["self", "name", "kind"] (defScope s_65) := ⟨rfl, rfl, rfl, by decide +kernel, rfl, by decide +kernel, by decide +kernel⟩
abbrev s_66 : Stmt := clsSt (topS 29) 10  -- Reader.braces
abbrev N_66 : List Str := ["self", "name", "begin", "kind"]
theorem sc_66 : FnScope N_66 ["self"] (defScope s_66) := ⟨rfl, rfl, rfl, by decide +kernel, rfl, by decide +kernel, by decide +kernel⟩
abbrev s_67 : Stmt := clsSt (topS 29) 11  -- Reader.escape
abbrev N_67 : List Str := ["self", "sign", "written"]
theorem sc_67 : FnScope N_67 ["self"] (defScope s_67) := ⟨rfl, rfl, rfl, by decide +kernel, rfl, by decide +kernel, by decide +kernel⟩
abbrev s_68 : Stmt := clsSt (topS 29) 12  -- Reader.node
abbrev N_68 : List Str := ["self", "sign"]
theorem sc_68 : FnScope N_68 ["self"] (defScope s_68) := ⟨rfl, rfl, rfl, by decide +kernel, rfl, by decide +kernel, by decide +kernel⟩
abbrev s_69 : Stmt := clsSt (topS 29) 13  -- Reader.message
abbrev N_69 : List Str := ["self", "inside", "before", "found"]
theorem sc_69 : FnScope N_69 ["self", "inside"] (defScope s_69) := ⟨rfl, rfl, rfl, by decide +kernel, rfl, by decide +kernel, by decide +kernel⟩
abbrev s_70 : Stmt := topS 30  -- parse_message
abbrev N_70 : List Str := ["text", "reader", "message"]
theorem sc_70 : FnScope N_70 ["text"] (defScope s_70) := ⟨rfl, rfl, rfl, by decide +kernel, rfl, by decide +kernel, by decide +kernel⟩
abbrev s_1000 : Stmt := topS 32  -- _law_cell
abbrev N_1000 : List Str := ["_law_script", "_law_k"]
theorem sc_1000 : FnScope N_1000 ["_law_script", "_law_k"] (defScope s_1000) := ⟨rfl, rfl, rfl, by decide +kernel, rfl, by decide +kernel, by decide +kernel⟩
abbrev s_1001 : Stmt := topS 33  -- _law_digits
abbrev N_1001 : List Str := ["_law_script", "_law_first", "_law_last", "_law_digits_here", "_law_k", "_law_cell_here", "_law_turn", "_law_seed"]
theorem sc_1001 : FnScope N_1001 ["_law_script", "_law_first", "_law_last"] (defScope s_1001) := ⟨rfl, rfl, rfl, by decide +kernel, rfl, by decide +kernel, by decide +kernel⟩
abbrev s_1002 : Stmt := topS 34  -- _law_draw
abbrev N_1002 : List Str := ["_law_box", "_law_many", "_law_at"]
theorem sc_1002 : FnScope N_1002 ["_law_box", "_law_many"] (defScope s_1002) := ⟨rfl, rfl, rfl, by decide +kernel, rfl, by decide +kernel, by decide +kernel⟩
abbrev s_1003 : Stmt := topS 35  -- _law_string
abbrev N_1003 : List Str := ["_law_box"]
theorem sc_1003 : FnScope N_1003 ["_law_box"] (defScope s_1003) := ⟨rfl, rfl, rfl, by decide +kernel, rfl, by decide +kernel, by decide +kernel⟩
abbrev s_1004 : Stmt := topS 36  -- _law_select
abbrev N_1004 : List Str := ["_law_box", "_law_depth", "_law_inside", "_law_cases", "_law_word"]
theorem sc_1004 : FnScope N_1004 ["_law_box", "_law_depth", "_law_inside"] (defScope s_1004) := ⟨rfl, rfl, rfl, by decide +kernel, rfl, by decide +kernel, by decide +kernel⟩
abbrev s_1005 : Stmt := topS 37  -- _law_plural
abbrev N_1005 : List Str := ["_law_box", "_law_depth", "_law_cases", "_law_key"]
theorem sc_1005 : FnScope N_1005 ["_law_box", "_law_depth"] (defScope s_1005) := ⟨rfl, rfl, rfl, by decide +kernel, rfl, by decide +kernel, by decide +kernel⟩
abbrev s_1006 : Stmt := topS 38  -- _law_message
abbrev N_1006 : List Str := ["_law_box", "_law_depth", "_law_inside", "_law_message_here", "_law_turn", "_law_kind"]
theorem sc_1006 : FnScope N_1006 ["_law_box", "_law_depth", "_law_inside"] (defScope s_1006) := ⟨rfl, rfl, rfl, by decide +kernel, rfl, by decide +kernel, by decide +kernel⟩
abbrev s_1007 : Stmt := topS 39  -- _law_escaped
abbrev N_1007 : List Str := ["_law_text", "_law_found", "_law_sign"]
theorem sc_1007 : FnScope N_1007 ["_law_text"] (defScope s_1007) := ⟨rfl, rfl, rfl, by decide +kernel, rfl, by decide +kernel, by decide +kernel⟩
abbrev s_1008 : Stmt := topS 40  -- _law_gap
abbrev N_1008 : List Str := ["_law_box", "_law_loose"]
theorem sc_1008 : FnScope N_1008 ["_law_box", "_law_loose"] (defScope s_1008) := ⟨rfl, rfl, rfl, by decide +kernel, rfl, by decide +kernel, by decide +kernel⟩
abbrev s_1009 : Stmt := topS 41  -- _law_one_gap
abbrev N_1009 : List Str := ["_law_box", "_law_loose"]
theorem sc_1009 : FnScope N_1009 ["_law_box", "_law_loose"] (defScope s_1009) := ⟨rfl, rfl, rfl, by decide +kernel, rfl, by decide +kernel, by decide +kernel⟩
abbrev s_1010 : Stmt := topS 42  -- _law_written
abbrev N_1010 : List Str := ["_law_box", "_law_message_here", "_law_loose", "_law_found", "_law_node", "_law_key", "_law_inner", "_law_shown"]
theorem sc_1010 : FnScope N_1010 ["_law_box", "_law_message_here", "_law_loose"] (defScope s_1010) := ⟨rfl, rfl, rfl, by decide +kernel, rfl, by decide +kernel, by decide +kernel⟩
abbrev s_1011 : Stmt := topS 43  -- _law_open
abbrev N_1011 : List Str := ["_law_text", "_law_depth", "_law_place", "_law_start", "_law_turn"]
theorem sc_1011 : FnScope N_1011 ["_law_text"] (defScope s_1011) := ⟨rfl, rfl, rfl, by decide +kernel, rfl, by decide +kernel, by decide +kernel⟩
abbrev s_1012 : Stmt := topS 44  -- law
abbrev N_1012 : List Str := ["_law_script", "_law_box", "_law_message_here", "_law_text", "_law_turn", "_law_cut", "_law_depth", "_law_start", "_law_told", "e"]
theorem sc_1012 : FnScope N_1012 ["_law_script"] (defScope s_1012) := ⟨rfl, rfl, rfl, by decide +kernel, rfl, by decide +kernel, by decide +kernel⟩
theorem tx_TokenError : ErrSt (clsSt (topS 2) 0) "place" "place" := ⟨⟨_, _, _, _, _, _, _, _, _, _, _, _, _, _, (.txt (by decide +kernel) (.val (.txt (by decide +kernel) FParts.nil))), by decide, rfl, rfl⟩, by decide +kernel, by decide +kernel, by decide +kernel, by decide +kernel, by decide +kernel, rfl, rfl, rfl, ⟨_, rfl, rfl⟩, by decide +kernel, by decide +kernel⟩
/-! what each def computes -/
def fx_EndError : Nat → Option Bool := fun c => if c = 1 then some false else if c = 2 then some true else none
def fx_MessagewaysError : Nat → Option Bool := fun c => if c = 1 then some true else if c = 2 then some true else none
def fx_TokenError : Nat → Option Bool := fun c => if c = 1 then some true else if c = 2 then some false else none
def ga_inside : Nat → Bool := fun c => decide (c = 21)
def ga_place : Nat → Bool := fun c => decide (c = 21)
def ga_text : Nat → Bool := fun c => decide (c = 21)
def gx_place : Nat → Bool := fun c => decide (c = 1)
def B_1 (R : Rec) : List D → List D → Res D := bodyRun 1 (sRet (eOp dIdx (eV 0) (eUn dNeg (eC (.int 2)))))  -- cases_of
def B_2 (R : Rec) : List D → List D → Res D := bodyRun 1 (sRet (eOp dIdx (eV 0) (eUn dNeg (eC (.int 1)))))  -- other_of
def C_4_1 (R : Rec) : De := (eTup (aCons (eV 2) (aCons (eCall (R 5) (aCons (eV 3) aNil)) aNil)))
theorem e_C_4_1 (R : Rec) (Γ : List Sl) (S : List D) : C_4_1 R Γ S = (eTup (aCons (eV 2) (aCons (eCall (R 5) (aCons (eV 3) aNil)) aNil))) Γ S := rfl
def B_4 (R : Rec) : List D → List D → Res D := bodyRun 4 (sSeq (sIf (tB (eOp cNotIn (eOp dIdx (eV 0) (eC (.int 0))) (eC (.tup [.str "select", .str "plural"])))) (sRet (eV 0)) sNext) (sSeq (sSet 1 (eComp (iA (eCall (R 1) (aCons (eV 0) aNil))) (.tp [(.nm 2), (.nm 3)]) [2, 3] tTrue (C_4_1 R))) (sRet (eOp dAdd (eCut dCut (eV 0) pNo (pSo (eUn dNeg (eC (.int 2))))) (eTup (aCons (eV 1) (aCons (eCall (R 5) (aCons (eCall (R 2) (aCons (eV 0) aNil)) aNil)) aNil)))))))  -- plain_node
def L_5_1 (R : Rec) : Ds := (sIf (tAndD (tB (eOp cEq (eOp dIdx (eV 2) (eC (.int 0))) (eC (.str "text")))) (tAndD (tTru (oV 1)) (tB (eOp cEq (eOp dIdx (eOp dIdx (oV 1) (eUn dNeg (eC (.int 1)))) (eC (.int 0))) (eC (.str "text")))))) (sSetO 1 (eUn dNeg (eC (.int 1))) (eTup (aCons (eC (.str "text")) (aCons (eOp dAdd (eOp dIdx (eOp dIdx (oV 1) (eUn dNeg (eC (.int 1)))) (eC (.int 1))) (eOp dIdx (eV 2) (eC (.int 1)))) aNil)))) (sIf (tB (eOp cNe (eV 2) (eTup (aCons (eC (.str "text")) (aCons (eC (.str "")) aNil))))) (sAppO 1 (eCall (R 4) (aCons (eV 2) aNil))) sNext))
theorem e_L_5_1 (R : Rec) (Γ : List Sl) (S : List D) : L_5_1 R Γ S = (sIf (tAndD (tB (eOp cEq (eOp dIdx (eV 2) (eC (.int 0))) (eC (.str "text")))) (tAndD (tTru (oV 1)) (tB (eOp cEq (eOp dIdx (eOp dIdx (oV 1) (eUn dNeg (eC (.int 1)))) (eC (.int 0))) (eC (.str "text")))))) (sSetO 1 (eUn dNeg (eC (.int 1))) (eTup (aCons (eC (.str "text")) (aCons (eOp dAdd (eOp dIdx (eOp dIdx (oV 1) (eUn dNeg (eC (.int 1)))) (eC (.int 1))) (eOp dIdx (eV 2) (eC (.int 1)))) aNil)))) (sIf (tB (eOp cNe (eV 2) (eTup (aCons (eC (.str "text")) (aCons (eC (.str "")) aNil))))) (sAppO 1 (eCall (R 4) (aCons (eV 2) aNil))) sNext)) Γ S := rfl
def B_5 (R : Rec) : List D → List D → Res D := bodyRun 3 (sSeq (sOwn 1 (eLst aNil)) (sSeq (sFor (iA (eV 0)) (.nm 2) [2] (L_5_1 R)) (sRetO 1)))  -- plain
def L_50_1 (R : Rec) : Ds := (sIf (tB (eOp cEq (eV 2) (eC (.str "'")))) (sAug 1 dAddI (eOp dAdd (eC (.str "'")) (eC (.str "'")))) (sIf (tB (eOp cIn (eV 2) (eC (.str "{}#'")))) (sAug 1 dAddI (eOp dAdd (eOp dAdd (eC (.str "'")) (eV 2)) (eC (.str "'")))) (sAug 1 dAddI (eV 2))))
theorem e_L_50_1 (R : Rec) (Γ : List Sl) (S : List D) : L_50_1 R Γ S = (sIf (tB (eOp cEq (eV 2) (eC (.str "'")))) (sAug 1 dAddI (eOp dAdd (eC (.str "'")) (eC (.str "'")))) (sIf (tB (eOp cIn (eV 2) (eC (.str "{}#'")))) (sAug 1 dAddI (eOp dAdd (eOp dAdd (eC (.str "'")) (eV 2)) (eC (.str "'")))) (sAug 1 dAddI (eV 2)))) Γ S := rfl
def B_50 (R : Rec) : List D → List D → Res D := bodyRun 3 (sSeq (sSet 1 (eC (.str ""))) (sSeq (sFor (iA (eV 0)) (.nm 2) [2] (L_50_1 R)) (sRet (eV 1))))  -- format_text
def B_55 (R : Rec) : List D → List D → Res D := bodyRun 1 (sRet (eOr (eOp cEq (eV 0) (eC (.str "\n"))) (eChain oLe oLe (eC (.str " ")) (eV 0) (eC (.str "~")))))  -- is_sign
def B_56 (R : Rec) : List D → List D → Res D := bodyRun 2 (sSeq (sAtt "text" ga_text (eV 0) (eV 1)) (sSeq (sAtt "place" ga_place (eV 0) (eC (.int 0))) (sAtt "inside" ga_inside (eV 0) (eC (.bl false)))))  -- Reader.__init__
def B_57 (R : Rec) : List D → List D → Res D := bodyRun 1 (sSeq (sIf (tB (eOp oGe (eAtt "place" ga_place (eV 0)) (eUn dLen (eAtt "text" ga_text (eV 0))))) (sRaise0 2) sNext) (sRet (eOp dIdx (eAtt "text" ga_text (eV 0)) (eAtt "place" ga_place (eV 0)))))  -- Reader.sign
def L_58_1 (R : Rec) : Ds := (sAttA "place" ga_place (eV 0) (eC (.int 1)))
theorem e_L_58_1 (R : Rec) (Γ : List Sl) (S : List D) : L_58_1 R Γ S = (sAttA "place" ga_place (eV 0) (eC (.int 1))) Γ S := rfl
def T_58_2 (R : Rec) : Dt := (tAndD (tB (eOp oLt (eAtt "place" ga_place (eV 0)) (eUn dLen (eAtt "text" ga_text (eV 0))))) (tB (eOp cIn (eOp dIdx (eAtt "text" ga_text (eV 0)) (eAtt "place" ga_place (eV 0))) (eC (.str " \n")))))
theorem e_T_58_2 (R : Rec) (Γ : List Sl) (S : List D) : T_58_2 R Γ S = (tAndD (tB (eOp oLt (eAtt "place" ga_place (eV 0)) (eUn dLen (eAtt "text" ga_text (eV 0))))) (tB (eOp cIn (eOp dIdx (eAtt "text" ga_text (eV 0)) (eAtt "place" ga_place (eV 0))) (eC (.str " \n"))))) Γ S := rfl
def B_58 (R : Rec) : List D → List D → Res D := bodyRun 1 (whileD (T_58_2 R) [] (L_58_1 R) fuel)  -- Reader.skip
def B_59 (R : Rec) : List D → List D → Res D := bodyRun 2 (sSeq (sExpr (eMeth 21 "skip" (R 58) (eV 0) aNil)) (sSeq (sIf (tB (eOp cNe (eMeth 21 "sign" (R 57) (eV 0) aNil) (eV 1))) (sRaise 1 "place" (eAtt "place" ga_place (eV 0))) sNext) (sAttA "place" ga_place (eV 0) (eC (.int 1)))))  -- Reader.expect
def L_60_1 (R : Rec) : Ds := (sAttA "place" ga_place (eV 0) (eC (.int 1)))
theorem e_L_60_1 (R : Rec) (Γ : List Sl) (S : List D) : L_60_1 R Γ S = (sAttA "place" ga_place (eV 0) (eC (.int 1))) Γ S := rfl
def T_60_2 (R : Rec) : Dt := (tAndD (tB (eOp oLt (eAtt "place" ga_place (eV 0)) (eUn dLen (eAtt "text" ga_text (eV 0))))) (tB (eOp cIn (eOp dIdx (eAtt "text" ga_text (eV 0)) (eAtt "place" ga_place (eV 0))) (eV 1))))
theorem e_T_60_2 (R : Rec) (Γ : List Sl) (S : List D) : T_60_2 R Γ S = (tAndD (tB (eOp oLt (eAtt "place" ga_place (eV 0)) (eUn dLen (eAtt "text" ga_text (eV 0))))) (tB (eOp cIn (eOp dIdx (eAtt "text" ga_text (eV 0)) (eAtt "place" ga_place (eV 0))) (eV 1)))) Γ S := rfl
def B_60 (R : Rec) : List D → List D → Res D := bodyRun 3 (sSeq (sExpr (eMeth 21 "skip" (R 58) (eV 0) aNil)) (sSeq (sSet 2 (eAtt "place" ga_place (eV 0))) (sSeq (whileD (T_60_2 R) [] (L_60_1 R) fuel) (sRet (eTup (aCons (eCut dCut (eAtt "text" ga_text (eV 0)) (pSo (eV 2)) (pSo (eAtt "place" ga_place (eV 0)))) (aCons (eV 2) aNil)))))))  -- Reader.run
def B_61 (R : Rec) : List D → List D → Res D := bodyRun 3 (sSeq (sBind (.tp [(.nm 1), (.nm 2)]) (eMeth 21 "run" (R 60) (eV 0) (aCons (eC (.str "abcdefghijklmnopqrstuvwxyz")) aNil))) (sSeq (sIf (tB (eOp cEq (eV 1) (eC (.str "")))) (sExpr (eMeth 21 "sign" (R 57) (eV 0) aNil)) sNext) (sSeq (sIf (tNotD (tB (eChain oLe oLe (eC (.int 1)) (eUn dLen (eV 1)) (eC (.int 8))))) (sRaise 1 "place" (eV 2)) sNext) (sRet (eTup (aCons (eV 1) (aCons (eV 2) aNil)))))))  -- Reader.word
def L_62_1 (R : Rec) : Ds := (sAttA "place" ga_place (eV 0) (eC (.int 1)))
theorem e_L_62_1 (R : Rec) (Γ : List Sl) (S : List D) : L_62_1 R Γ S = (sAttA "place" ga_place (eV 0) (eC (.int 1))) Γ S := rfl
def T_62_2 (R : Rec) : Dt := (tAndD (tB (eOp oLt (eAtt "place" ga_place (eV 0)) (eUn dLen (eAtt "text" ga_text (eV 0))))) (tB (eOp cIn (eOp dIdx (eAtt "text" ga_text (eV 0)) (eAtt "place" ga_place (eV 0))) (eC (.str "0123456789")))))
theorem e_T_62_2 (R : Rec) (Γ : List Sl) (S : List D) : T_62_2 R Γ S = (tAndD (tB (eOp oLt (eAtt "place" ga_place (eV 0)) (eUn dLen (eAtt "text" ga_text (eV 0))))) (tB (eOp cIn (eOp dIdx (eAtt "text" ga_text (eV 0)) (eAtt "place" ga_place (eV 0))) (eC (.str "0123456789"))))) Γ S := rfl
def B_62 (R : Rec) : List D → List D → Res D := bodyRun 4 (sSeq (sSet 2 (eAtt "place" ga_place (eV 0))) (sSeq (whileD (T_62_2 R) [] (L_62_1 R) fuel) (sSeq (sSet 3 (eCut dCut (eAtt "text" ga_text (eV 0)) (pSo (eV 2)) (pSo (eAtt "place" ga_place (eV 0))))) (sSeq (sIf (tB (eOp cEq (eV 3) (eC (.str "")))) (sExpr (eMeth 21 "sign" (R 57) (eV 0) aNil)) sNext) (sSeq (sIf (tOrD (tB (eOp cEq (eV 3) (eC (.str "")))) (tOrD (tB (eOp oGt (eUn dLen (eV 3)) (eC (.int 3)))) (tOrD (tAndD (tB (eOp cEq (eOp dIdx (eV 3) (eC (.int 0))) (eC (.str "0")))) (tB (eOp cNe (eV 3) (eC (.str "0"))))) (tB (eOp oGt (eUn dInt (eV 3)) (eV 1)))))) (sRaise 1 "place" (eV 2)) sNext) (sRet (eUn dInt (eV 3))))))))  -- Reader.natural
def B_63 (R : Rec) : List D → List D → Res D := bodyRun 1 (sSeq (sExpr (eMeth 21 "skip" (R 58) (eV 0) aNil)) (sSeq (sIf (tNotD (tTru (eSt3 (eAtt "text" ga_text (eV 0)) (eC (.str "offset:")) (eAtt "place" ga_place (eV 0))))) (sRet (eC (.int 0))) sNext) (sSeq (sAttA "place" ga_place (eV 0) (eUn dLen (eC (.str "offset:")))) (sRet (eMeth 21 "natural" (R 62) (eV 0) (aCons (eC (.int 9)) aNil))))))  -- Reader.offset
def B_64 (R : Rec) : List D → List D → Res D := bodyRun 4 (sSeq (sExpr (eMeth 21 "skip" (R 58) (eV 0) aNil)) (sSeq (sSet 2 (eAtt "place" ga_place (eV 0))) (sSeq (sIf (tAndD (tB (eOp cEq (eV 1) (eC (.str "plural")))) (tB (eOp cEq (eMeth 21 "sign" (R 57) (eV 0) aNil) (eC (.str "="))))) (sSeq (sAttA "place" ga_place (eV 0) (eC (.int 1))) (sRet (eTup (aCons (eMeth 21 "natural" (R 62) (eV 0) (aCons (eC (.int 999)) aNil)) (aCons (eV 2) aNil))))) sNext) (sSeq (sBind (.tp [(.nm 3), (.nm 2)]) (eMeth 21 "word" (R 61) (eV 0) aNil)) (sSeq (sIf (tAndD (tB (eOp cEq (eV 1) (eC (.str "plural")))) (tAndD (tB (eOp cNotIn (eV 3) (eC (.tup [.str "zero", .str "one", .str "two", .str "few", .str "many"])))) (tB (eOp cNe (eV 3) (eC (.str "other")))))) (sRaise 1 "place" (eV 2)) sNext) (sRet (eTup (aCons (eV 3) (aCons (eV 2) aNil)))))))))  -- Reader.key
def C_65_1 (R : Rec) : De := (eV 8)
theorem e_C_65_1 (R : Rec) (Γ : List Sl) (S : List D) : C_65_1 R Γ S = (eV 8) Γ S := rfl
def L_65_2 (R : Rec) : Ds := (sSeq (sBind (.tp [(.nm 5), (.nm 6)]) (eMeth 21 "key" (R 64) (eV 0) (aCons (eV 2) aNil))) (sSeq (sIf (tB (eOp cIn (eV 5) (eComp (iO 4) (.tp [(.nm 8), (.nm 7)]) [7, 8] tTrue (C_65_1 R)))) (sRaise 1 "place" (eV 6)) sNext) (sSeq (sExpr (eMeth 21 "expect" (R 59) (eV 0) (aCons (eC (.str "{")) aNil))) (sSeq (sSet 7 (eMeth 21 "message" (R 69) (eV 0) (aCons (eOr (eOp cEq (eV 2) (eC (.str "plural"))) (eAtt "inside" ga_inside (eV 0))) aNil))) (sSeq (sExpr (eMeth 21 "expect" (R 59) (eV 0) (aCons (eC (.str "}")) aNil))) (sSeq (sIf (tB (eOp cEq (eV 5) (eC (.str "other")))) (sSeq (sExpr (eMeth 21 "expect" (R 59) (eV 0) (aCons (eC (.str "}")) aNil))) (sSeq (sSettle 4) (sRet (eOp dAdd (eV 3) (eTup (aCons (eV 4) (aCons (eV 7) aNil))))))) sNext) (sAppO 4 (eTup (aCons (eV 5) (aCons (eV 7) aNil))))))))))
theorem e_L_65_2 (R : Rec) (Γ : List Sl) (S : List D) : L_65_2 R Γ S = (sSeq (sBind (.tp [(.nm 5), (.nm 6)]) (eMeth 21 "key" (R 64) (eV 0) (aCons (eV 2) aNil))) (sSeq (sIf (tB (eOp cIn (eV 5) (eComp (iO 4) (.tp [(.nm 8), (.nm 7)]) [7, 8] tTrue (C_65_1 R)))) (sRaise 1 "place" (eV 6)) sNext) (sSeq (sExpr (eMeth 21 "expect" (R 59) (eV 0) (aCons (eC (.str "{")) aNil))) (sSeq (sSet 7 (eMeth 21 "message" (R 69) (eV 0) (aCons (eOr (eOp cEq (eV 2) (eC (.str "plural"))) (eAtt "inside" ga_inside (eV 0))) aNil))) (sSeq (sExpr (eMeth 21 "expect" (R 59) (eV 0) (aCons (eC (.str "}")) aNil))) (sSeq (sIf (tB (eOp cEq (eV 5) (eC (.str "other")))) (sSeq (sExpr (eMeth 21 "expect" (R 59) (eV 0) (aCons (eC (.str "}")) aNil))) (sSeq (sSettle 4) (sRet (eOp dAdd (eV 3) (eTup (aCons (eV 4) (aCons (eV 7) aNil))))))) sNext) (sAppO 4 (eTup (aCons (eV 5) (aCons (eV 7) aNil)))))))))) Γ S := rfl
def T_65_3 (R : Rec) : Dt := (tTru (eC (.bl true)))
theorem e_T_65_3 (R : Rec) (Γ : List Sl) (S : List D) : T_65_3 R Γ S = (tTru (eC (.bl true))) Γ S := rfl
def B_65 (R : Rec) : List D → List D → Res D := bodyRun 9 (sSeq (sExpr (eMeth 21 "expect" (R 59) (eV 0) (aCons (eC (.str ",")) aNil))) (sSeq (sSet 3 (eTup (aCons (eV 2) (aCons (eV 1) aNil)))) (sSeq (sIf (tB (eOp cEq (eV 2) (eC (.str "plural")))) (sSet 3 (eTup (aCons (eV 2) (aCons (eV 1) (aCons (eMeth 21 "offset" (R 63) (eV 0) aNil) aNil))))) sNext) (sSeq (sOwn 4 (eLst aNil)) (whileD (T_65_3 R) [5, 6, 7] (L_65_2 R) fuel)))))  -- Reader.choice
def B_66 (R : Rec) : List D → List D → Res D := bodyRun 4 (sSeq (sExpr (eMeth 21 "expect" (R 59) (eV 0) (aCons (eC (.str "{")) aNil))) (sSeq (sBind (.tp [(.nm 1), (.nm 2)]) (eMeth 21 "word" (R 61) (eV 0) aNil)) (sSeq (sExpr (eMeth 21 "skip" (R 58) (eV 0) aNil)) (sSeq (sIf (tB (eOp cEq (eMeth 21 "sign" (R 57) (eV 0) aNil) (eC (.str "}")))) (sSeq (sAttA "place" ga_place (eV 0) (eC (.int 1))) (sRet (eTup (aCons (eC (.str "show")) (aCons (eV 1) aNil))))) sNext) (sSeq (sExpr (eMeth 21 "expect" (R 59) (eV 0) (aCons (eC (.str ",")) aNil))) (sSeq (sBind (.tp [(.nm 3), (.nm 2)]) (eMeth 21 "word" (R 61) (eV 0) aNil)) (sSeq (sIf (tB (eOp cNotIn (eV 3) (eTup (aCons (eC (.str "select")) (aCons (eC (.str "plural")) aNil))))) (sRaise 1 "place" (eV 2)) sNext) (sRet (eMeth 21 "choice" (R 65) (eV 0) (aCons (eV 1) (aCons (eV 3) aNil)))))))))))  -- Reader.braces
def L_67_1 (R : Rec) : Ds := (sSeq (sSet 2 (eCall (R 50) (aCons (eV 1) aNil))) (sIf (tTru (eSt3 (eAtt "text" ga_text (eV 0)) (eV 2) (eAtt "place" ga_place (eV 0)))) (sSeq (sAttA "place" ga_place (eV 0) (eUn dLen (eV 2))) (sRet (eV 1))) sNext))
theorem e_L_67_1 (R : Rec) (Γ : List Sl) (S : List D) : L_67_1 R Γ S = (sSeq (sSet 2 (eCall (R 50) (aCons (eV 1) aNil))) (sIf (tTru (eSt3 (eAtt "text" ga_text (eV 0)) (eV 2) (eAtt "place" ga_place (eV 0)))) (sSeq (sAttA "place" ga_place (eV 0) (eUn dLen (eV 2))) (sRet (eV 1))) sNext)) Γ S := rfl
def B_67 (R : Rec) : List D → List D → Res D := bodyRun 3 (sSeq (sFor (iA (eC (.str "{}#'"))) (.nm 1) [1, 2] (L_67_1 R)) (sRaise 1 "place" (eAtt "place" ga_place (eV 0))))  -- Reader.escape
def B_68 (R : Rec) : List D → List D → Res D := bodyRun 2 (sSeq (sSet 1 (eMeth 21 "sign" (R 57) (eV 0) aNil)) (sSeq (sIf (tB (eOp cEq (eV 1) (eC (.str "{")))) (sRet (eMeth 21 "braces" (R 66) (eV 0) aNil)) sNext) (sSeq (sIf (tB (eOp cEq (eV 1) (eC (.str "'")))) (sRet (eTup (aCons (eC (.str "text")) (aCons (eMeth 21 "escape" (R 67) (eV 0) aNil) aNil)))) sNext) (sSeq (sIf (tAndD (tB (eOp cEq (eV 1) (eC (.str "#")))) (tTru (eAtt "inside" ga_inside (eV 0)))) (sSeq (sAttA "place" ga_place (eV 0) (eC (.int 1))) (sRet (eTup (aCons (eC (.str "number")) aNil)))) sNext) (sSeq (sIf (tOrD (tB (eOp cIn (eV 1) (eC (.str "{}#'")))) (tNotD (tTru (eCall (R 55) (aCons (eV 1) aNil))))) (sRaise 1 "place" (eAtt "place" ga_place (eV 0))) sNext) (sSeq (sAttA "place" ga_place (eV 0) (eC (.int 1))) (sRet (eTup (aCons (eC (.str "text")) (aCons (eV 1) aNil))))))))))  -- Reader.node
def L_69_1 (R : Rec) : Ds := (sAppO 3 (eMeth 21 "node" (R 68) (eV 0) aNil))
theorem e_L_69_1 (R : Rec) (Γ : List Sl) (S : List D) : L_69_1 R Γ S = (sAppO 3 (eMeth 21 "node" (R 68) (eV 0) aNil)) Γ S := rfl
def T_69_2 (R : Rec) : Dt := (tAndD (tB (eOp oLt (eAtt "place" ga_place (eV 0)) (eUn dLen (eAtt "text" ga_text (eV 0))))) (tB (eOp cNe (eOp dIdx (eAtt "text" ga_text (eV 0)) (eAtt "place" ga_place (eV 0))) (eC (.str "}")))))
theorem e_T_69_2 (R : Rec) (Γ : List Sl) (S : List D) : T_69_2 R Γ S = (tAndD (tB (eOp oLt (eAtt "place" ga_place (eV 0)) (eUn dLen (eAtt "text" ga_text (eV 0))))) (tB (eOp cNe (eOp dIdx (eAtt "text" ga_text (eV 0)) (eAtt "place" ga_place (eV 0))) (eC (.str "}"))))) Γ S := rfl
def B_69 (R : Rec) : List D → List D → Res D := bodyRun 4 (sSeq (sSet 2 (eAtt "inside" ga_inside (eV 0))) (sSeq (sAtt "inside" ga_inside (eV 0) (eV 1)) (sSeq (sOwn 3 (eLst aNil)) (sSeq (whileD (T_69_2 R) [] (L_69_1 R) fuel) (sSeq (sAtt "inside" ga_inside (eV 0) (eV 2)) (sRetO 3))))))  -- Reader.message
def B_70 (R : Rec) : List D → List D → Res D := bodyRun 3 (sSeq (sSet 1 (eMake 21 (R 56) (aCons (eV 0) aNil))) (sSeq (sSet 2 (eMeth 21 "message" (R 69) (eV 1) (aCons (eC (.bl false)) aNil))) (sSeq (sIf (tB (eOp oLt (eAtt "place" ga_place (eV 1)) (eUn dLen (eV 0)))) (sRaise 1 "place" (eAtt "place" ga_place (eV 1))) sNext) (sRet (eCall (R 5) (aCons (eV 2) aNil))))))  -- parse_message
def B_1000 (R : Rec) : List D → List D → Res D := bodyRun 2 (sSeq (sIf (tB (eOp oLt (eV 1) (eUn dLen (eV 0)))) (sRet (eOp dIdx (eV 0) (eV 1))) sNext) (sRet (eC (.int 0))))  -- _law_cell
def L_1001_1 (R : Rec) : Ds := (sIf (tB (eOp oGt (eV 5) (eC (.int 0)))) (sSeq (sAppO 3 (eOp fMod (eUn dInt (eV 5)) (eC (.int 1000)))) (sSet 5 (eOp fDiv (eV 5) (eC (.int 1000))))) sNext)
theorem e_L_1001_1 (R : Rec) (Γ : List Sl) (S : List D) : L_1001_1 R Γ S = (sIf (tB (eOp oGt (eV 5) (eC (.int 0)))) (sSeq (sAppO 3 (eOp fMod (eUn dInt (eV 5)) (eC (.int 1000)))) (sSet 5 (eOp fDiv (eV 5) (eC (.int 1000))))) sNext) Γ S := rfl
def L_1001_2 (R : Rec) : Ds := (sSeq (sSet 7 (eOp fMod (eUn dInt (eOp dAdd (eOp dAdd (eOp dMul (eV 7) (eC (.int 16807))) (eOp dMul (eC (.int 7)) (eV 6))) (eC (.int 1)))) (eC (.int 2147483647)))) (sAppO 3 (eOp fMod (eUn dInt (eOp fDiv (eV 7) (eC (.int 997)))) (eC (.int 1000)))))
theorem e_L_1001_2 (R : Rec) (Γ : List Sl) (S : List D) : L_1001_2 R Γ S = (sSeq (sSet 7 (eOp fMod (eUn dInt (eOp dAdd (eOp dAdd (eOp dMul (eV 7) (eC (.int 16807))) (eOp dMul (eC (.int 7)) (eV 6))) (eC (.int 1)))) (eC (.int 2147483647)))) (sAppO 3 (eOp fMod (eUn dInt (eOp fDiv (eV 7) (eC (.int 997)))) (eC (.int 1000))))) Γ S := rfl
def L_1001_3 (R : Rec) : Ds := (sSeq (sSet 5 (eCall (R 1000) (aCons (eV 0) (aCons (eV 4) aNil)))) (sSeq (sIf (tB (eOp oLt (eV 5) (eC (.int 0)))) (sSet 5 (eOp fSub (eC (.int 1)) (eOp dMul (eC (.int 2)) (eV 5)))) sNext) (sIf (tB (eOp oGe (eV 5) (eOp fPow (eC (.int 10)) (eC (.int 18))))) (sFor (iR1 (eC (.int 60))) (.nm 6) [6] (L_1001_1 R)) (sSeq (sSet 7 (eOp fMod (eUn dInt (eOp dAdd (eOp dAdd (eOp dMul (eV 5) (eC (.int 48271))) (eOp dMul (eV 4) (eC (.int 69621)))) (eC (.int 11)))) (eC (.int 2147483647)))) (sSeq (sClr [6]) (sFor (iR1 (eC (.int 12))) (.nm 6) [6] (L_1001_2 R)))))))
theorem e_L_1001_3 (R : Rec) (Γ : List Sl) (S : List D) : L_1001_3 R Γ S = (sSeq (sSet 5 (eCall (R 1000) (aCons (eV 0) (aCons (eV 4) aNil)))) (sSeq (sIf (tB (eOp oLt (eV 5) (eC (.int 0)))) (sSet 5 (eOp fSub (eC (.int 1)) (eOp dMul (eC (.int 2)) (eV 5)))) sNext) (sIf (tB (eOp oGe (eV 5) (eOp fPow (eC (.int 10)) (eC (.int 18))))) (sFor (iR1 (eC (.int 60))) (.nm 6) [6] (L_1001_1 R)) (sSeq (sSet 7 (eOp fMod (eUn dInt (eOp dAdd (eOp dAdd (eOp dMul (eV 5) (eC (.int 48271))) (eOp dMul (eV 4) (eC (.int 69621)))) (eC (.int 11)))) (eC (.int 2147483647)))) (sSeq (sClr [6]) (sFor (iR1 (eC (.int 12))) (.nm 6) [6] (L_1001_2 R))))))) Γ S := rfl
def B_1001 (R : Rec) : List D → List D → Res D := bodyRun 8 (sSeq (sOwn 3 (eLst aNil)) (sSeq (sFor (iR2 (eV 1) (eV 2)) (.nm 4) [4, 5, 6, 7] (L_1001_3 R)) (sRetO 3)))  -- _law_digits
def B_1002 (R : Rec) : List D → List D → Res D := bodyRun 3 (sSeq (sSet 2 (eOp dIdx (eV 0) (eC (.int 1)))) (sSeq (sSetP (eV 0) (eC (.int 1)) (eOp dAdd (eV 2) (eC (.int 1)))) (sSeq (sIf (tB (eOp oLt (eV 2) (eUn dLen (eOp dIdx (eV 0) (eC (.int 0)))))) (sRet (eOp fMod (eUn dInt (eOp dIdx (eOp dIdx (eV 0) (eC (.int 0))) (eV 2))) (eV 1))) sNext) (sRet (eC (.int 0))))))  -- _law_draw
def B_1003 (R : Rec) : List D → List D → Res D := bodyRun 1 (sRet (eOp dIdx (eLst (aCons (eC (.str "a")) (aCons (eC (.str "b ")) (aCons (eC (.str " files")) (aCons (eC (.str "'")) (aCons (eC (.str "{x}")) (aCons (eC (.str "#")) (aCons (eC (.str "a'{'")) (aCons (eC (.str "1\n2")) (aCons (eC (.str "other {")) (aCons (eC (.str "~")) aNil))))))))))) (eCall (R 1002) (aCons (eV 0) (aCons (eC (.int 10)) aNil)))))  -- _law_string
def L_1004_1 (R : Rec) : Ds := (sIf (tB (eOp cEq (eCall (R 1002) (aCons (eV 0) (aCons (eC (.int 3)) aNil))) (eC (.int 0)))) (sAppO 3 (eTup (aCons (eV 4) (aCons (eCall (R 1006) (aCons (eV 0) (aCons (eOp fSub (eV 1) (eC (.int 1))) (aCons (eV 2) aNil)))) aNil)))) sNext)
theorem e_L_1004_1 (R : Rec) (Γ : List Sl) (S : List D) : L_1004_1 R Γ S = (sIf (tB (eOp cEq (eCall (R 1002) (aCons (eV 0) (aCons (eC (.int 3)) aNil))) (eC (.int 0)))) (sAppO 3 (eTup (aCons (eV 4) (aCons (eCall (R 1006) (aCons (eV 0) (aCons (eOp fSub (eV 1) (eC (.int 1))) (aCons (eV 2) aNil)))) aNil)))) sNext) Γ S := rfl
def B_1004 (R : Rec) : List D → List D → Res D := bodyRun 5 (sSeq (sOwn 3 (eLst aNil)) (sSeq (sFor (iA (eLst (aCons (eC (.str "a")) (aCons (eC (.str "one")) (aCons (eC (.str "select")) aNil))))) (.nm 4) [4] (L_1004_1 R)) (sSeq (sSettle 3) (sRet (eTup (aCons (eC (.str "select")) (aCons (eOp dIdx (eLst (aCons (eC (.str "w")) (aCons (eC (.str "kind")) aNil))) (eCall (R 1002) (aCons (eV 0) (aCons (eC (.int 2)) aNil)))) (aCons (eV 3) (aCons (eCall (R 1006) (aCons (eV 0) (aCons (eOp fSub (eV 1) (eC (.int 1))) (aCons (eV 2) aNil)))) aNil)))))))))  -- _law_select
def L_1005_1 (R : Rec) : Ds := (sIf (tB (eOp cEq (eCall (R 1002) (aCons (eV 0) (aCons (eC (.int 5)) aNil))) (eC (.int 0)))) (sAppO 2 (eTup (aCons (eV 3) (aCons (eCall (R 1006) (aCons (eV 0) (aCons (eOp fSub (eV 1) (eC (.int 1))) (aCons (eC (.bl true)) aNil)))) aNil)))) sNext)
theorem e_L_1005_1 (R : Rec) (Γ : List Sl) (S : List D) : L_1005_1 R Γ S = (sIf (tB (eOp cEq (eCall (R 1002) (aCons (eV 0) (aCons (eC (.int 5)) aNil))) (eC (.int 0)))) (sAppO 2 (eTup (aCons (eV 3) (aCons (eCall (R 1006) (aCons (eV 0) (aCons (eOp fSub (eV 1) (eC (.int 1))) (aCons (eC (.bl true)) aNil)))) aNil)))) sNext) Γ S := rfl
def B_1005 (R : Rec) : List D → List D → Res D := bodyRun 4 (sSeq (sOwn 2 (eLst aNil)) (sSeq (sFor (iA (eLst (aCons (eC (.int 0)) (aCons (eC (.int 1)) (aCons (eC (.int 2)) (aCons (eC (.int 12)) (aCons (eC (.str "zero")) (aCons (eC (.str "one")) (aCons (eC (.str "two")) (aCons (eC (.str "few")) (aCons (eC (.str "many")) aNil))))))))))) (.nm 3) [3] (L_1005_1 R)) (sSeq (sIf (tB (eOp cEq (eCall (R 1002) (aCons (eV 0) (aCons (eC (.int 3)) aNil))) (eC (.int 0)))) (sRevO 2) sNext) (sSeq (sSettle 2) (sRet (eTup (aCons (eC (.str "plural")) (aCons (eOp dIdx (eLst (aCons (eC (.str "n")) (aCons (eC (.str "count")) aNil))) (eCall (R 1002) (aCons (eV 0) (aCons (eC (.int 2)) aNil)))) (aCons (eOp dIdx (eLst (aCons (eC (.int 0)) (aCons (eC (.int 0)) (aCons (eC (.int 1)) (aCons (eC (.int 2)) aNil))))) (eCall (R 1002) (aCons (eV 0) (aCons (eC (.int 4)) aNil)))) (aCons (eV 2) (aCons (eCall (R 1006) (aCons (eV 0) (aCons (eOp fSub (eV 1) (eC (.int 1))) (aCons (eC (.bl true)) aNil)))) aNil)))))))))))  -- _law_plural
def L_1006_1 (R : Rec) : Ds := (sSeq (sSet 5 (eCall (R 1002) (aCons (eV 0) (aCons (eC (.int 8)) aNil)))) (sIf (tOrD (tB (eOp oLt (eV 5) (eC (.int 3)))) (tAndD (tB (eOp cEq (eV 1) (eC (.int 0)))) (tB (eOp oGt (eV 5) (eC (.int 4)))))) (sIf (tOrD (tB (eOp cEq (eUn dLen (oV 3)) (eC (.int 0)))) (tB (eOp cNe (eOp dIdx (eOp dIdx (oV 3) (eUn dNeg (eC (.int 1)))) (eC (.int 0))) (eC (.str "text"))))) (sAppO 3 (eTup (aCons (eC (.str "text")) (aCons (eCall (R 1003) (aCons (eV 0) aNil)) aNil)))) sNext) (sIf (tB (eOp cEq (eV 5) (eC (.int 3)))) (sAppO 3 (eTup (aCons (eC (.str "show")) (aCons (eOp dIdx (eLst (aCons (eC (.str "n")) (aCons (eC (.str "w")) (aCons (eC (.str "who")) (aCons (eC (.str "count")) aNil))))) (eCall (R 1002) (aCons (eV 0) (aCons (eC (.int 4)) aNil)))) aNil)))) (sIf (tB (eOp cEq (eV 5) (eC (.int 4)))) (sIf (tTru (eV 2)) (sAppO 3 (eTup (aCons (eC (.str "number")) aNil))) sNext) (sIf (tB (eOp oLt (eV 5) (eC (.int 7)))) (sAppO 3 (eCall (R 1005) (aCons (eV 0) (aCons (eV 1) aNil)))) (sAppO 3 (eCall (R 1004) (aCons (eV 0) (aCons (eV 1) (aCons (eV 2) aNil))))))))))
theorem e_L_1006_1 (R : Rec) (Γ : List Sl) (S : List D) : L_1006_1 R Γ S = (sSeq (sSet 5 (eCall (R 1002) (aCons (eV 0) (aCons (eC (.int 8)) aNil)))) (sIf (tOrD (tB (eOp oLt (eV 5) (eC (.int 3)))) (tAndD (tB (eOp cEq (eV 1) (eC (.int 0)))) (tB (eOp oGt (eV 5) (eC (.int 4)))))) (sIf (tOrD (tB (eOp cEq (eUn dLen (oV 3)) (eC (.int 0)))) (tB (eOp cNe (eOp dIdx (eOp dIdx (oV 3) (eUn dNeg (eC (.int 1)))) (eC (.int 0))) (eC (.str "text"))))) (sAppO 3 (eTup (aCons (eC (.str "text")) (aCons (eCall (R 1003) (aCons (eV 0) aNil)) aNil)))) sNext) (sIf (tB (eOp cEq (eV 5) (eC (.int 3)))) (sAppO 3 (eTup (aCons (eC (.str "show")) (aCons (eOp dIdx (eLst (aCons (eC (.str "n")) (aCons (eC (.str "w")) (aCons (eC (.str "who")) (aCons (eC (.str "count")) aNil))))) (eCall (R 1002) (aCons (eV 0) (aCons (eC (.int 4)) aNil)))) aNil)))) (sIf (tB (eOp cEq (eV 5) (eC (.int 4)))) (sIf (tTru (eV 2)) (sAppO 3 (eTup (aCons (eC (.str "number")) aNil))) sNext) (sIf (tB (eOp oLt (eV 5) (eC (.int 7)))) (sAppO 3 (eCall (R 1005) (aCons (eV 0) (aCons (eV 1) aNil)))) (sAppO 3 (eCall (R 1004) (aCons (eV 0) (aCons (eV 1) (aCons (eV 2) aNil)))))))))) Γ S := rfl
def B_1006 (R : Rec) : List D → List D → Res D := bodyRun 6 (sSeq (sOwn 3 (eLst aNil)) (sSeq (sFor (iR1 (eCall (R 1002) (aCons (eV 0) (aCons (eC (.int 4)) aNil)))) (.nm 4) [4, 5] (L_1006_1 R)) (sRetO 3)))  -- _law_message
def L_1007_1 (R : Rec) : Ds := (sIf (tB (eOp cEq (eV 2) (eC (.str "'")))) (sSet 1 (eOp dAdd (eV 1) (eC (.str "''")))) (sIf (tB (eOp cIn (eV 2) (eC (.str "{}#")))) (sSet 1 (eOp dAdd (eOp dAdd (eOp dAdd (eV 1) (eC (.str "'"))) (eV 2)) (eC (.str "'")))) (sSet 1 (eOp dAdd (eV 1) (eV 2)))))
theorem e_L_1007_1 (R : Rec) (Γ : List Sl) (S : List D) : L_1007_1 R Γ S = (sIf (tB (eOp cEq (eV 2) (eC (.str "'")))) (sSet 1 (eOp dAdd (eV 1) (eC (.str "''")))) (sIf (tB (eOp cIn (eV 2) (eC (.str "{}#")))) (sSet 1 (eOp dAdd (eOp dAdd (eOp dAdd (eV 1) (eC (.str "'"))) (eV 2)) (eC (.str "'")))) (sSet 1 (eOp dAdd (eV 1) (eV 2))))) Γ S := rfl
def B_1007 (R : Rec) : List D → List D → Res D := bodyRun 3 (sSeq (sSet 1 (eC (.str ""))) (sSeq (sFor (iA (eV 0)) (.nm 2) [2] (L_1007_1 R)) (sRet (eV 1))))  -- _law_escaped
def B_1008 (R : Rec) : List D → List D → Res D := bodyRun 2 (sSeq (sIf (tNotD (tTru (eV 1))) (sRet (eC (.str ""))) sNext) (sRet (eOp dIdx (eLst (aCons (eC (.str "")) (aCons (eC (.str " ")) (aCons (eC (.str "\n")) (aCons (eC (.str "  ")) aNil))))) (eCall (R 1002) (aCons (eV 0) (aCons (eC (.int 4)) aNil))))))  -- _law_gap
def B_1009 (R : Rec) : List D → List D → Res D := bodyRun 2 (sSeq (sIf (tNotD (tTru (eV 1))) (sRet (eC (.str " "))) sNext) (sRet (eOp dIdx (eLst (aCons (eC (.str " ")) (aCons (eC (.str "\n")) (aCons (eC (.str "  ")) aNil)))) (eCall (R 1002) (aCons (eV 0) (aCons (eC (.int 3)) aNil))))))  -- _law_one_gap
def L_1010_1 (R : Rec) : Ds := (sSeq (sSet 7 (eV 5)) (sSeq (sIf (tNotD (tTru (eUn (dIsi "str") (eV 5)))) (sSet 7 (eOp dAdd (eC (.str "=")) (eUn dStr (eV 5)))) sNext) (sSet 3 (eOp dAdd (eOp dAdd (eOp dAdd (eOp dAdd (eOp dAdd (eOp dAdd (eV 3) (eCall (R 1009) (aCons (eV 0) (aCons (eV 2) aNil)))) (eV 7)) (eCall (R 1009) (aCons (eV 0) (aCons (eV 2) aNil)))) (eC (.str "{"))) (eCall (R 1010) (aCons (eV 0) (aCons (eV 6) (aCons (eV 2) aNil))))) (eC (.str "}"))))))
theorem e_L_1010_1 (R : Rec) (Γ : List Sl) (S : List D) : L_1010_1 R Γ S = (sSeq (sSet 7 (eV 5)) (sSeq (sIf (tNotD (tTru (eUn (dIsi "str") (eV 5)))) (sSet 7 (eOp dAdd (eC (.str "=")) (eUn dStr (eV 5)))) sNext) (sSet 3 (eOp dAdd (eOp dAdd (eOp dAdd (eOp dAdd (eOp dAdd (eOp dAdd (eV 3) (eCall (R 1009) (aCons (eV 0) (aCons (eV 2) aNil)))) (eV 7)) (eCall (R 1009) (aCons (eV 0) (aCons (eV 2) aNil)))) (eC (.str "{"))) (eCall (R 1010) (aCons (eV 0) (aCons (eV 6) (aCons (eV 2) aNil))))) (eC (.str "}")))))) Γ S := rfl
def L_1010_2 (R : Rec) : Ds := (sIf (tB (eOp cEq (eOp dIdx (eV 4) (eC (.int 0))) (eC (.str "text")))) (sSet 3 (eOp dAdd (eV 3) (eCall (R 1007) (aCons (eOp dIdx (eV 4) (eC (.int 1))) aNil)))) (sIf (tB (eOp cEq (eOp dIdx (eV 4) (eC (.int 0))) (eC (.str "show")))) (sSet 3 (eOp dAdd (eOp dAdd (eOp dAdd (eOp dAdd (eOp dAdd (eV 3) (eC (.str "{"))) (eCall (R 1008) (aCons (eV 0) (aCons (eV 2) aNil)))) (eOp dIdx (eV 4) (eC (.int 1)))) (eCall (R 1008) (aCons (eV 0) (aCons (eV 2) aNil)))) (eC (.str "}")))) (sIf (tB (eOp cEq (eOp dIdx (eV 4) (eC (.int 0))) (eC (.str "number")))) (sSet 3 (eOp dAdd (eV 3) (eC (.str "#")))) (sSeq (sSet 3 (eOp dAdd (eOp dAdd (eOp dAdd (eOp dAdd (eOp dAdd (eV 3) (eC (.str "{"))) (eCall (R 1008) (aCons (eV 0) (aCons (eV 2) aNil)))) (eOp dIdx (eV 4) (eC (.int 1)))) (eCall (R 1008) (aCons (eV 0) (aCons (eV 2) aNil)))) (eC (.str ",")))) (sSeq (sSet 3 (eOp dAdd (eOp dAdd (eOp dAdd (eOp dAdd (eV 3) (eCall (R 1009) (aCons (eV 0) (aCons (eV 2) aNil)))) (eOp dIdx (eV 4) (eC (.int 0)))) (eCall (R 1008) (aCons (eV 0) (aCons (eV 2) aNil)))) (eC (.str ",")))) (sSeq (sIf (tAndD (tB (eOp cEq (eOp dIdx (eV 4) (eC (.int 0))) (eC (.str "plural")))) (tB (eOp oGt (eOp dIdx (eV 4) (eC (.int 2))) (eC (.int 0))))) (sSet 3 (eOp dAdd (eOp dAdd (eOp dAdd (eV 3) (eCall (R 1009) (aCons (eV 0) (aCons (eV 2) aNil)))) (eC (.str "offset:"))) (eUn dStr (eOp dIdx (eV 4) (eC (.int 2)))))) sNext) (sSeq (sFor (iA (eOp dAdd (eOp dIdx (eV 4) (eUn dNeg (eC (.int 2)))) (eLst (aCons (eTup (aCons (eC (.str "other")) (aCons (eOp dIdx (eV 4) (eUn dNeg (eC (.int 1)))) aNil))) aNil)))) (.tp [(.nm 5), (.nm 6)]) [5, 6, 7] (L_1010_1 R)) (sSet 3 (eOp dAdd (eOp dAdd (eV 3) (eCall (R 1008) (aCons (eV 0) (aCons (eV 2) aNil)))) (eC (.str "}")))))))))))
theorem e_L_1010_2 (R : Rec) (Γ : List Sl) (S : List D) : L_1010_2 R Γ S = (sIf (tB (eOp cEq (eOp dIdx (eV 4) (eC (.int 0))) (eC (.str "text")))) (sSet 3 (eOp dAdd (eV 3) (eCall (R 1007) (aCons (eOp dIdx (eV 4) (eC (.int 1))) aNil)))) (sIf (tB (eOp cEq (eOp dIdx (eV 4) (eC (.int 0))) (eC (.str "show")))) (sSet 3 (eOp dAdd (eOp dAdd (eOp dAdd (eOp dAdd (eOp dAdd (eV 3) (eC (.str "{"))) (eCall (R 1008) (aCons (eV 0) (aCons (eV 2) aNil)))) (eOp dIdx (eV 4) (eC (.int 1)))) (eCall (R 1008) (aCons (eV 0) (aCons (eV 2) aNil)))) (eC (.str "}")))) (sIf (tB (eOp cEq (eOp dIdx (eV 4) (eC (.int 0))) (eC (.str "number")))) (sSet 3 (eOp dAdd (eV 3) (eC (.str "#")))) (sSeq (sSet 3 (eOp dAdd (eOp dAdd (eOp dAdd (eOp dAdd (eOp dAdd (eV 3) (eC (.str "{"))) (eCall (R 1008) (aCons (eV 0) (aCons (eV 2) aNil)))) (eOp dIdx (eV 4) (eC (.int 1)))) (eCall (R 1008) (aCons (eV 0) (aCons (eV 2) aNil)))) (eC (.str ",")))) (sSeq (sSet 3 (eOp dAdd (eOp dAdd (eOp dAdd (eOp dAdd (eV 3) (eCall (R 1009) (aCons (eV 0) (aCons (eV 2) aNil)))) (eOp dIdx (eV 4) (eC (.int 0)))) (eCall (R 1008) (aCons (eV 0) (aCons (eV 2) aNil)))) (eC (.str ",")))) (sSeq (sIf (tAndD (tB (eOp cEq (eOp dIdx (eV 4) (eC (.int 0))) (eC (.str "plural")))) (tB (eOp oGt (eOp dIdx (eV 4) (eC (.int 2))) (eC (.int 0))))) (sSet 3 (eOp dAdd (eOp dAdd (eOp dAdd (eV 3) (eCall (R 1009) (aCons (eV 0) (aCons (eV 2) aNil)))) (eC (.str "offset:"))) (eUn dStr (eOp dIdx (eV 4) (eC (.int 2)))))) sNext) (sSeq (sFor (iA (eOp dAdd (eOp dIdx (eV 4) (eUn dNeg (eC (.int 2)))) (eLst (aCons (eTup (aCons (eC (.str "other")) (aCons (eOp dIdx (eV 4) (eUn dNeg (eC (.int 1)))) aNil))) aNil)))) (.tp [(.nm 5), (.nm 6)]) [5, 6, 7] (L_1010_1 R)) (sSet 3 (eOp dAdd (eOp dAdd (eV 3) (eCall (R 1008) (aCons (eV 0) (aCons (eV 2) aNil)))) (eC (.str "}"))))))))))) Γ S := rfl
def B_1010 (R : Rec) : List D → List D → Res D := bodyRun 8 (sSeq (sSet 3 (eC (.str ""))) (sSeq (sFor (iA (eV 1)) (.nm 4) [4, 5, 6, 7] (L_1010_2 R)) (sRet (eV 3))))  -- _law_written
def L_1011_1 (R : Rec) : Ds := (sIf (tB (eOp oLt (eV 2) (eUn dLen (eV 0)))) (sIf (tB (eOp cEq (eOp dIdx (eV 0) (eV 2)) (eC (.str "'")))) (sSeq (sSet 3 (eV 2)) (sSet 2 (eOp dAdd (eOp dAdd (eV 2) (eC (.int 2))) (eUn dInt (eOp cNe (eCut dCut (eV 0) (pSo (eV 2)) (pSo (eOp dAdd (eV 2) (eC (.int 2))))) (eC (.str "''"))))))) (sSeq (sSet 1 (eOp fSub (eOp dAdd (eV 1) (eUn dInt (eOp cEq (eOp dIdx (eV 0) (eV 2)) (eC (.str "{"))))) (eUn dInt (eOp cEq (eOp dIdx (eV 0) (eV 2)) (eC (.str "}")))))) (sSet 2 (eOp dAdd (eV 2) (eC (.int 1)))))) sNext)
theorem e_L_1011_1 (R : Rec) (Γ : List Sl) (S : List D) : L_1011_1 R Γ S = (sIf (tB (eOp oLt (eV 2) (eUn dLen (eV 0)))) (sIf (tB (eOp cEq (eOp dIdx (eV 0) (eV 2)) (eC (.str "'")))) (sSeq (sSet 3 (eV 2)) (sSet 2 (eOp dAdd (eOp dAdd (eV 2) (eC (.int 2))) (eUn dInt (eOp cNe (eCut dCut (eV 0) (pSo (eV 2)) (pSo (eOp dAdd (eV 2) (eC (.int 2))))) (eC (.str "''"))))))) (sSeq (sSet 1 (eOp fSub (eOp dAdd (eV 1) (eUn dInt (eOp cEq (eOp dIdx (eV 0) (eV 2)) (eC (.str "{"))))) (eUn dInt (eOp cEq (eOp dIdx (eV 0) (eV 2)) (eC (.str "}")))))) (sSet 2 (eOp dAdd (eV 2) (eC (.int 1)))))) sNext) Γ S := rfl
def B_1011 (R : Rec) : List D → List D → Res D := bodyRun 5 (sSeq (sSet 1 (eC (.int 0))) (sSeq (sSet 2 (eC (.int 0))) (sSeq (sSet 3 (eUn dNeg (eC (.int 1)))) (sSeq (sFor (iR1 (eUn dLen (eV 0))) (.nm 4) [4] (L_1011_1 R)) (sSeq (sIf (tB (eOp oLe (eV 2) (eUn dLen (eV 0)))) (sSet 3 (eUn dNeg (eC (.int 1)))) sNext) (sRet (eLst (aCons (eV 1) (aCons (eV 3) aNil)))))))))  -- _law_open
def L_1012_1 (R : Rec) : Ds := (sSeq (sSet 5 (eCut dCut (eV 3) pNo (pSo (eOp fMod (eUn dInt (eCall (R 1002) (aCons (eV 1) (aCons (eC (.int 900)) aNil)))) (eOp dAdd (eUn dLen (eV 3)) (eC (.int 1))))))) (sSeq (sBind (.ul [(.nm 6), (.nm 7)]) (eCall (R 1011) (aCons (eV 5) aNil))) (sSeq (sSet 8 (eC (.str "read"))) (sSeq (sTry (some 9) fx_MessagewaysError (sExpr (eCall (R 70) (aCons (eV 5) aNil))) (sSeq (sSet 8 (eC (.str "other"))) (sSeq (sIf (tTru (eIsX 9 fx_EndError)) (sSet 8 (eC (.str "end"))) sNext) (sIf (tTru (eIsX 9 fx_TokenError)) (sSet 8 (eXf 9 "place" gx_place)) sNext)))) (sIf (tB (eOp oGe (eV 7) (eC (.int 0)))) (sIf (tB (eOp cNe (eV 8) (eV 7))) (sRet (eC (.bl false))) sNext) (sIf (tAndD (tB (eOp cEq (eV 6) (eC (.int 0)))) (tB (eOp cNe (eV 8) (eC (.str "read"))))) (sRet (eC (.bl false))) (sIf (tAndD (tB (eOp oGt (eV 6) (eC (.int 0)))) (tAndD (tB (eOp cNe (eV 8) (eC (.str "end")))) (tOrD (tNotD (tTru (eUn (dIsi "int") (eV 8)))) (tB (eOp oLt (eV 8) (eOp fSub (eUn dLen (eV 5)) (eC (.int 8)))))))) (sRet (eC (.bl false))) sNext)))))))
theorem e_L_1012_1 (R : Rec) (Γ : List Sl) (S : List D) : L_1012_1 R Γ S = (sSeq (sSet 5 (eCut dCut (eV 3) pNo (pSo (eOp fMod (eUn dInt (eCall (R 1002) (aCons (eV 1) (aCons (eC (.int 900)) aNil)))) (eOp dAdd (eUn dLen (eV 3)) (eC (.int 1))))))) (sSeq (sBind (.ul [(.nm 6), (.nm 7)]) (eCall (R 1011) (aCons (eV 5) aNil))) (sSeq (sSet 8 (eC (.str "read"))) (sSeq (sTry (some 9) fx_MessagewaysError (sExpr (eCall (R 70) (aCons (eV 5) aNil))) (sSeq (sSet 8 (eC (.str "other"))) (sSeq (sIf (tTru (eIsX 9 fx_EndError)) (sSet 8 (eC (.str "end"))) sNext) (sIf (tTru (eIsX 9 fx_TokenError)) (sSet 8 (eXf 9 "place" gx_place)) sNext)))) (sIf (tB (eOp oGe (eV 7) (eC (.int 0)))) (sIf (tB (eOp cNe (eV 8) (eV 7))) (sRet (eC (.bl false))) sNext) (sIf (tAndD (tB (eOp cEq (eV 6) (eC (.int 0)))) (tB (eOp cNe (eV 8) (eC (.str "read"))))) (sRet (eC (.bl false))) (sIf (tAndD (tB (eOp oGt (eV 6) (eC (.int 0)))) (tAndD (tB (eOp cNe (eV 8) (eC (.str "end")))) (tOrD (tNotD (tTru (eUn (dIsi "int") (eV 8)))) (tB (eOp oLt (eV 8) (eOp fSub (eUn dLen (eV 5)) (eC (.int 8)))))))) (sRet (eC (.bl false))) sNext))))))) Γ S := rfl
def B_1012 (R : Rec) : List D → List D → Res D := bodyRun 10 (sSeq (sSet 1 (eBox (eLst (aCons (eCall (R 1001) (aCons (eV 0) (aCons (eC (.int 0)) (aCons (eC (.int 63)) aNil)))) (aCons (eC (.int 0)) aNil))))) (sSeq (sSet 2 (eCall (R 1006) (aCons (eV 1) (aCons (eC (.int 2)) (aCons (eC (.bl false)) aNil))))) (sSeq (sSet 3 (eCall (R 1010) (aCons (eV 1) (aCons (eV 2) (aCons (eC (.bl false)) aNil))))) (sSeq (sFor (iR1 (eC (.int 6))) (.nm 4) [4, 5, 6, 7, 8, 9] (L_1012_1 R)) (sRet (eC (.bl true)))))))  -- law
def tab (R : Rec) : Rec := fun i => match i with
  | 1 => B_1 R
  | 2 => B_2 R
  | 4 => B_4 R
  | 5 => B_5 R
  | 50 => B_50 R
  | 55 => B_55 R
  | 56 => B_56 R
  | 57 => B_57 R
  | 58 => B_58 R
  | 59 => B_59 R
  | 60 => B_60 R
  | 61 => B_61 R
  | 62 => B_62 R
  | 63 => B_63 R
  | 64 => B_64 R
  | 65 => B_65 R
  | 66 => B_66 R
  | 67 => B_67 R
  | 68 => B_68 R
  | 69 => B_69 R
  | 70 => B_70 R
  | 1000 => B_1000 R
  | 1001 => B_1001 R
  | 1002 => B_1002 R
  | 1003 => B_1003 R
  | 1004 => B_1004 R
  | 1005 => B_1005 R
  | 1006 => B_1006 R
  | 1007 => B_1007 R
  | 1008 => B_1008 R
  | 1009 => B_1009 R
  | 1010 => B_1010 R
  | 1011 => B_1011 R
  | 1012 => B_1012 R
  | _ => fun _ _ => .stuck
def run : Nat → Rec
  | 0 => fun _ _ _ => .stuck
  | n + 1 => tab (run n)
theorem run_1 (n : Nat) : run (n + 1) 1 = B_1 (run n) := rfl
theorem run_2 (n : Nat) : run (n + 1) 2 = B_2 (run n) := rfl
theorem run_4 (n : Nat) : run (n + 1) 4 = B_4 (run n) := rfl
theorem run_5 (n : Nat) : run (n + 1) 5 = B_5 (run n) := rfl
theorem run_50 (n : Nat) : run (n + 1) 50 = B_50 (run n) := rfl
theorem run_55 (n : Nat) : run (n + 1) 55 = B_55 (run n) := rfl
theorem run_56 (n : Nat) : run (n + 1) 56 = B_56 (run n) := rfl
theorem run_57 (n : Nat) : run (n + 1) 57 = B_57 (run n) := rfl
theorem run_58 (n : Nat) : run (n + 1) 58 = B_58 (run n) := rfl
theorem run_59 (n : Nat) : run (n + 1) 59 = B_59 (run n) := rfl
theorem run_60 (n : Nat) : run (n + 1) 60 = B_60 (run n) := rfl
theorem run_61 (n : Nat) : run (n + 1) 61 = B_61 (run n) := rfl
theorem run_62 (n : Nat) : run (n + 1) 62 = B_62 (run n) := rfl
theorem run_63 (n : Nat) : run (n + 1) 63 = B_63 (run n) := rfl
theorem run_64 (n : Nat) : run (n + 1) 64 = B_64 (run n) := rfl
theorem run_65 (n : Nat) : run (n + 1) 65 = B_65 (run n) := rfl
theorem run_66 (n : Nat) : run (n + 1) 66 = B_66 (run n) := rfl
theorem run_67 (n : Nat) : run (n + 1) 67 = B_67 (run n) := rfl
theorem run_68 (n : Nat) : run (n + 1) 68 = B_68 (run n) := rfl
theorem run_69 (n : Nat) : run (n + 1) 69 = B_69 (run n) := rfl
theorem run_70 (n : Nat) : run (n + 1) 70 = B_70 (run n) := rfl
theorem run_1000 (n : Nat) : run (n + 1) 1000 = B_1000 (run n) := rfl
theorem run_1001 (n : Nat) : run (n + 1) 1001 = B_1001 (run n) := rfl
theorem run_1002 (n : Nat) : run (n + 1) 1002 = B_1002 (run n) := rfl
theorem run_1003 (n : Nat) : run (n + 1) 1003 = B_1003 (run n) := rfl
theorem run_1004 (n : Nat) : run (n + 1) 1004 = B_1004 (run n) := rfl
theorem run_1005 (n : Nat) : run (n + 1) 1005 = B_1005 (run n) := rfl
theorem run_1006 (n : Nat) : run (n + 1) 1006 = B_1006 (run n) := rfl
theorem run_1007 (n : Nat) : run (n + 1) 1007 = B_1007 (run n) := rfl
theorem run_1008 (n : Nat) : run (n + 1) 1008 = B_1008 (run n) := rfl
theorem run_1009 (n : Nat) : run (n + 1) 1009 = B_1009 (run n) := rfl
theorem run_1010 (n : Nat) : run (n + 1) 1010 = B_1010 (run n) := rfl
theorem run_1011 (n : Nat) : run (n + 1) 1011 = B_1011 (run n) := rfl
theorem run_1012 (n : Nat) : run (n + 1) 1012 = B_1012 (run n) := rfl
/-! the top -/
structure Top (P : Program) (K : PySem.W.Frag) (mg : Str → Option Value) (cls : Nat → Addr) (A : Nat → Addr) (FD : Nat → FuncData) : Prop where
  m_MessagewaysError : mg "MessagewaysError" = some (.ref (cls (0 + 3)))
  m_TokenError : mg "TokenError" = some (.ref (cls (1 + 3)))
  m_EndError : mg "EndError" = some (.ref (cls (2 + 3)))
  m_Reader : mg "Reader" = some (.ref (cls (21 + 3)))
  cb_Reader : Cls K (cls (21 + 3))
  mk_Reader : Mk K (cls (21 + 3)) (A 56)
  na_Reader_inside : NoAttr K (cls (21 + 3)) "inside"
  na_Reader_place : NoAttr K (cls (21 + 3)) "place"
  na_Reader_text : NoAttr K (cls (21 + 3)) "text"
  e_TokenError : ErrTxt P K "TokenError.__init__" (clsSt (topS 2) 0) (cls (1 + 3)) (cls (1 + 3)) (A 2001) (A 3001) (A 4001) "place" "place"
  x_TokenError : ExcC K (cls (1 + 3))
  n_TokenError : PySem.W.findIn K (.ref (cls (1 + 3))) "place" = some none
  q_EndError : PySem.W.excIn K (cls (2 + 3)) [.type "ValueError", .type "Exception", .type "BaseException", .type "object"] "ValueError.__new__" = true
  kp_EndError : PySem.W.keepIn K (.ref (cls (2 + 3))) = true
  ex_EndError : PySem.W.subIn K (.ref (cls (2 + 3))) (.type "BaseException") = some true
  ty_EndError : PySem.W.typeIn K (.ref (cls (2 + 3))) = some (.type "type")
  x_EndError : ExcC K (cls (2 + 3))
  t_EndError_TokenError : PySem.W.exmOne K (.ref (cls (1 + 3))) (.ref (cls (2 + 3))) = some false
  k_EndError_TokenError : PySem.W.kitOne K (.ref (cls (1 + 3))) (.ref (cls (2 + 3))) = some false
  t_EndError_EndError : PySem.W.exmOne K (.ref (cls (2 + 3))) (.ref (cls (2 + 3))) = some true
  k_EndError_EndError : PySem.W.kitOne K (.ref (cls (2 + 3))) (.ref (cls (2 + 3))) = some true
  t_MessagewaysError_TokenError : PySem.W.exmOne K (.ref (cls (1 + 3))) (.ref (cls (0 + 3))) = some true
  k_MessagewaysError_TokenError : PySem.W.kitOne K (.ref (cls (1 + 3))) (.ref (cls (0 + 3))) = some true
  t_MessagewaysError_EndError : PySem.W.exmOne K (.ref (cls (2 + 3))) (.ref (cls (0 + 3))) = some true
  k_MessagewaysError_EndError : PySem.W.kitOne K (.ref (cls (2 + 3))) (.ref (cls (0 + 3))) = some true
  t_TokenError_TokenError : PySem.W.exmOne K (.ref (cls (1 + 3))) (.ref (cls (1 + 3))) = some true
  k_TokenError_TokenError : PySem.W.kitOne K (.ref (cls (1 + 3))) (.ref (cls (1 + 3))) = some true
  t_TokenError_EndError : PySem.W.exmOne K (.ref (cls (2 + 3))) (.ref (cls (1 + 3))) = some false
  k_TokenError_EndError : PySem.W.kitOne K (.ref (cls (2 + 3))) (.ref (cls (1 + 3))) = some false
  b_int : mg "int" = none
  b_isinstance : mg "isinstance" = none
  b_len : mg "len" = none
  b_range : mg "range" = none
  b_str : mg "str" = none
  b_super : mg "super" = none
  c_TEXT : ∃ t : Tok, mg "TEXT" = some (.str "text" t)
  c_SHOW : ∃ t : Tok, mg "SHOW" = some (.str "show" t)
  c_NUMBER : ∃ t : Tok, mg "NUMBER" = some (.str "number" t)
  c_SELECT : ∃ t : Tok, mg "SELECT" = some (.str "select" t)
  c_PLURAL : ∃ t : Tok, mg "PLURAL" = some (.str "plural" t)
  c_OTHER : ∃ t : Tok, mg "OTHER" = some (.str "other" t)
  c_CATEGORIES : ∃ a us dd n sl, mg "CATEGORIES" = some (.ref a) ∧ K.lookup a = some ⟨.type "tuple", dd, .seq us.toArray n, sl⟩ ∧ StrsV ["zero", "one", "two", "few", "many"] us ∧ us.length ≤ sizeLine
  c_CHOICES : ∃ a us dd n sl, mg "CHOICES" = some (.ref a) ∧ K.lookup a = some ⟨.type "tuple", dd, .seq us.toArray n, sl⟩ ∧ StrsV ["select", "plural"] us ∧ us.length ≤ sizeLine
  c_LETTERS : ∃ t : Tok, mg "LETTERS" = some (.str "abcdefghijklmnopqrstuvwxyz" t)
  c_FIGURES : ∃ t : Tok, mg "FIGURES" = some (.str "0123456789" t)
  c_NAME_MOST : ∃ t : Tok, mg "NAME_MOST" = some (.int 8 t)
  c_OFFSET_MOST : ∃ t : Tok, mg "OFFSET_MOST" = some (.int 9 t)
  c_EXACT_MOST : ∃ t : Tok, mg "EXACT_MOST" = some (.int 999 t)
  c_QUOTE : ∃ t : Tok, mg "QUOTE" = some (.str "'" t)
  c_ESCAPED : ∃ t : Tok, mg "ESCAPED" = some (.str "{}#'" t)
  c_SPACES : ∃ t : Tok, mg "SPACES" = some (.str " \n" t)
  c_OFFSET : ∃ t : Tok, mg "OFFSET" = some (.str "offset:" t)
  f_1 : Fun K "cases_of" "cases_of" s_1 (A 1) (FD 1)
  g_1 : mg "cases_of" = some (.ref (A 1))
  n_1 : Binds K (FD 1) ["node"] []
  f_2 : Fun K "other_of" "other_of" s_2 (A 2) (FD 2)
  g_2 : mg "other_of" = some (.ref (A 2))
  n_2 : Binds K (FD 2) ["node"] []
  f_4 : Fun K "plain_node" "plain_node" s_4 (A 4) (FD 4)
  g_4 : mg "plain_node" = some (.ref (A 4))
  n_4 : Binds K (FD 4) ["node"] []
  f_5 : Fun K "plain" "plain" s_5 (A 5) (FD 5)
  g_5 : mg "plain" = some (.ref (A 5))
  n_5 : Binds K (FD 5) ["message"] []
  f_50 : Fun K "format_text" "format_text" s_50 (A 50) (FD 50)
  g_50 : mg "format_text" = some (.ref (A 50))
  n_50 : Binds K (FD 50) ["text"] []
  f_55 : Fun K "is_sign" "is_sign" s_55 (A 55) (FD 55)
  g_55 : mg "is_sign" = some (.ref (A 55))
  n_55 : Binds K (FD 55) ["sign"] []
  f_56 : Fun K "__init__" "Reader.__init__" s_56 (A 56) (FD 56)
  n_56 : Binds K (FD 56) ["self", "text"] []
  f_57 : Fun K "sign" "Reader.sign" s_57 (A 57) (FD 57)
  g_57 : Meth K (cls (21 + 3)) "sign" (A 57)
  n_57 : Binds K (FD 57) ["self"] []
  f_58 : Fun K "skip" "Reader.skip" s_58 (A 58) (FD 58)
  g_58 : Meth K (cls (21 + 3)) "skip" (A 58)
  n_58 : Binds K (FD 58) ["self"] []
  f_59 : Fun K "expect" "Reader.expect" s_59 (A 59) (FD 59)
  g_59 : Meth K (cls (21 + 3)) "expect" (A 59)
  n_59 : Binds K (FD 59) ["self", "sign"] []
  f_60 : Fun K "run" "Reader.run" s_60 (A 60) (FD 60)
  g_60 : Meth K (cls (21 + 3)) "run" (A 60)
  n_60 : Binds K (FD 60) ["self", "signs"] []
  f_61 : Fun K "word" "Reader.word" s_61 (A 61) (FD 61)
  g_61 : Meth K (cls (21 + 3)) "word" (A 61)
  n_61 : Binds K (FD 61) ["self"] []
  f_62 : Fun K "natural" "Reader.natural" s_62 (A 62) (FD 62)
  g_62 : Meth K (cls (21 + 3)) "natural" (A 62)
  n_62 : Binds K (FD 62) ["self", "most"] []
  f_63 : Fun K "offset" "Reader.offset" s_63 (A 63) (FD 63)
  g_63 : Meth K (cls (21 + 3)) "offset" (A 63)
  n_63 : Binds K (FD 63) ["self"] []
  f_64 : Fun K "key" "Reader.key" s_64 (A 64) (FD 64)
  g_64 : Meth K (cls (21 + 3)) "key" (A 64)
  n_64 : Binds K (FD 64) ["self", "kind"] []
  f_65 : Fun K "choice" "Reader.choice" s_65 (A 65) (FD 65)
  g_65 : Meth K (cls (21 + 3)) "choice" (A 65)
  n_65 : Binds K (FD 65) ["self", "name", "kind"] []
  f_66 : Fun K "braces" "Reader.braces" s_66 (A 66) (FD 66)
  g_66 : Meth K (cls (21 + 3)) "braces" (A 66)
  n_66 : Binds K (FD 66) ["self"] []
  f_67 : Fun K "escape" "Reader.escape" s_67 (A 67) (FD 67)
  g_67 : Meth K (cls (21 + 3)) "escape" (A 67)
  n_67 : Binds K (FD 67) ["self"] []
  f_68 : Fun K "node" "Reader.node" s_68 (A 68) (FD 68)
  g_68 : Meth K (cls (21 + 3)) "node" (A 68)
  n_68 : Binds K (FD 68) ["self"] []
  f_69 : Fun K "message" "Reader.message" s_69 (A 69) (FD 69)
  g_69 : Meth K (cls (21 + 3)) "message" (A 69)
  n_69 : Binds K (FD 69) ["self", "inside"] []
  f_70 : Fun K "parse_message" "parse_message" s_70 (A 70) (FD 70)
  g_70 : mg "parse_message" = some (.ref (A 70))
  n_70 : Binds K (FD 70) ["text"] []
  f_1000 : Fun K "_law_cell" "_law_cell" s_1000 (A 1000) (FD 1000)
  g_1000 : mg "_law_cell" = some (.ref (A 1000))
  n_1000 : Binds K (FD 1000) ["_law_script", "_law_k"] []
  f_1001 : Fun K "_law_digits" "_law_digits" s_1001 (A 1001) (FD 1001)
  g_1001 : mg "_law_digits" = some (.ref (A 1001))
  n_1001 : Binds K (FD 1001) ["_law_script", "_law_first", "_law_last"] []
  f_1002 : Fun K "_law_draw" "_law_draw" s_1002 (A 1002) (FD 1002)
  g_1002 : mg "_law_draw" = some (.ref (A 1002))
  n_1002 : Binds K (FD 1002) ["_law_box", "_law_many"] []
  f_1003 : Fun K "_law_string" "_law_string" s_1003 (A 1003) (FD 1003)
  g_1003 : mg "_law_string" = some (.ref (A 1003))
  n_1003 : Binds K (FD 1003) ["_law_box"] []
  f_1004 : Fun K "_law_select" "_law_select" s_1004 (A 1004) (FD 1004)
  g_1004 : mg "_law_select" = some (.ref (A 1004))
  n_1004 : Binds K (FD 1004) ["_law_box", "_law_depth", "_law_inside"] []
  f_1005 : Fun K "_law_plural" "_law_plural" s_1005 (A 1005) (FD 1005)
  g_1005 : mg "_law_plural" = some (.ref (A 1005))
  n_1005 : Binds K (FD 1005) ["_law_box", "_law_depth"] []
  f_1006 : Fun K "_law_message" "_law_message" s_1006 (A 1006) (FD 1006)
  g_1006 : mg "_law_message" = some (.ref (A 1006))
  n_1006 : Binds K (FD 1006) ["_law_box", "_law_depth", "_law_inside"] []
  f_1007 : Fun K "_law_escaped" "_law_escaped" s_1007 (A 1007) (FD 1007)
  g_1007 : mg "_law_escaped" = some (.ref (A 1007))
  n_1007 : Binds K (FD 1007) ["_law_text"] []
  f_1008 : Fun K "_law_gap" "_law_gap" s_1008 (A 1008) (FD 1008)
  g_1008 : mg "_law_gap" = some (.ref (A 1008))
  n_1008 : Binds K (FD 1008) ["_law_box", "_law_loose"] []
  f_1009 : Fun K "_law_one_gap" "_law_one_gap" s_1009 (A 1009) (FD 1009)
  g_1009 : mg "_law_one_gap" = some (.ref (A 1009))
  n_1009 : Binds K (FD 1009) ["_law_box", "_law_loose"] []
  f_1010 : Fun K "_law_written" "_law_written" s_1010 (A 1010) (FD 1010)
  g_1010 : mg "_law_written" = some (.ref (A 1010))
  n_1010 : Binds K (FD 1010) ["_law_box", "_law_message_here", "_law_loose"] []
  f_1011 : Fun K "_law_open" "_law_open" s_1011 (A 1011) (FD 1011)
  g_1011 : mg "_law_open" = some (.ref (A 1011))
  n_1011 : Binds K (FD 1011) ["_law_text"] []
  f_1012 : Fun K "law" "law" s_1012 (A 1012) (FD 1012)
  g_1012 : mg "law" = some (.ref (A 1012))
  n_1012 : Binds K (FD 1012) ["_law_script"] []
theorem fx_EndError_ok {P : Program} {K : PySem.W.Frag} {mg : Str → Option Value} {cls : Nat → Addr} {A : Nat → Addr} {FD : Nat → FuncData} (T : Top P K mg cls A FD) : ∀ c b, fx_EndError c = some b → PySem.W.exmOne K (.ref (cls (c + 3))) (.ref (cls 5)) = some b := by
  intro c b h
  unfold fx_EndError at h
  repeat' split at h
  all_goals first
    | (cases h; done)
    | (rename_i z; subst z; cases h; exact T.t_EndError_TokenError)
    | (rename_i z _; subst z; cases h; exact T.t_EndError_TokenError)
    | (rename_i z; subst z; cases h; exact T.t_EndError_EndError)
    | (rename_i z _; subst z; cases h; exact T.t_EndError_EndError)
    | (cases h; subst_vars; first | exact T.t_EndError_TokenError | exact T.t_EndError_EndError)
theorem ix_EndError_ok {P : Program} {K : PySem.W.Frag} {mg : Str → Option Value} {cls : Nat → Addr} {A : Nat → Addr} {FD : Nat → FuncData} (T : Top P K mg cls A FD) : ∀ c b, fx_EndError c = some b → ExcC K (cls (c + 3)) ∧ PySem.W.kitOne K (.ref (cls (c + 3))) (.ref (cls 5)) = some b := by
  intro c b h
  unfold fx_EndError at h
  repeat' split at h
  all_goals first
    | (cases h; done)
    | (cases h; subst_vars; first | exact ⟨T.x_TokenError, T.k_EndError_TokenError⟩ | exact ⟨T.x_EndError, T.k_EndError_EndError⟩)
theorem fx_MessagewaysError_ok {P : Program} {K : PySem.W.Frag} {mg : Str → Option Value} {cls : Nat → Addr} {A : Nat → Addr} {FD : Nat → FuncData} (T : Top P K mg cls A FD) : ∀ c b, fx_MessagewaysError c = some b → PySem.W.exmOne K (.ref (cls (c + 3))) (.ref (cls 3)) = some b := by
  intro c b h
  unfold fx_MessagewaysError at h
  repeat' split at h
  all_goals first
    | (cases h; done)
    | (rename_i z; subst z; cases h; exact T.t_MessagewaysError_TokenError)
    | (rename_i z _; subst z; cases h; exact T.t_MessagewaysError_TokenError)
    | (rename_i z; subst z; cases h; exact T.t_MessagewaysError_EndError)
    | (rename_i z _; subst z; cases h; exact T.t_MessagewaysError_EndError)
    | (cases h; subst_vars; first | exact T.t_MessagewaysError_TokenError | exact T.t_MessagewaysError_EndError)
theorem ix_MessagewaysError_ok {P : Program} {K : PySem.W.Frag} {mg : Str → Option Value} {cls : Nat → Addr} {A : Nat → Addr} {FD : Nat → FuncData} (T : Top P K mg cls A FD) : ∀ c b, fx_MessagewaysError c = some b → ExcC K (cls (c + 3)) ∧ PySem.W.kitOne K (.ref (cls (c + 3))) (.ref (cls 3)) = some b := by
  intro c b h
  unfold fx_MessagewaysError at h
  repeat' split at h
  all_goals first
    | (cases h; done)
    | (cases h; subst_vars; first | exact ⟨T.x_TokenError, T.k_MessagewaysError_TokenError⟩ | exact ⟨T.x_EndError, T.k_MessagewaysError_EndError⟩)
theorem fx_TokenError_ok {P : Program} {K : PySem.W.Frag} {mg : Str → Option Value} {cls : Nat → Addr} {A : Nat → Addr} {FD : Nat → FuncData} (T : Top P K mg cls A FD) : ∀ c b, fx_TokenError c = some b → PySem.W.exmOne K (.ref (cls (c + 3))) (.ref (cls 4)) = some b := by
  intro c b h
  unfold fx_TokenError at h
  repeat' split at h
  all_goals first
    | (cases h; done)
    | (rename_i z; subst z; cases h; exact T.t_TokenError_TokenError)
    | (rename_i z _; subst z; cases h; exact T.t_TokenError_TokenError)
    | (rename_i z; subst z; cases h; exact T.t_TokenError_EndError)
    | (rename_i z _; subst z; cases h; exact T.t_TokenError_EndError)
    | (cases h; subst_vars; first | exact T.t_TokenError_TokenError | exact T.t_TokenError_EndError)
theorem ix_TokenError_ok {P : Program} {K : PySem.W.Frag} {mg : Str → Option Value} {cls : Nat → Addr} {A : Nat → Addr} {FD : Nat → FuncData} (T : Top P K mg cls A FD) : ∀ c b, fx_TokenError c = some b → ExcC K (cls (c + 3)) ∧ PySem.W.kitOne K (.ref (cls (c + 3))) (.ref (cls 4)) = some b := by
  intro c b h
  unfold fx_TokenError at h
  repeat' split at h
  all_goals first
    | (cases h; done)
    | (cases h; subst_vars; first | exact ⟨T.x_TokenError, T.k_TokenError_TokenError⟩ | exact ⟨T.x_EndError, T.k_TokenError_EndError⟩)
theorem ga_inside_ok {P : Program} {K : PySem.W.Frag} {mg : Str → Option Value} {cls : Nat → Addr} {A : Nat → Addr} {FD : Nat → FuncData} (T : Top P K mg cls A FD) : ∀ c, ga_inside c = true → Cls K (cls (c + 3)) ∧ NoAttr K (cls (c + 3)) "inside" := by
  intro c h
  unfold ga_inside at h
  simp only [Bool.or_eq_true, decide_eq_true_eq] at h
  have k : c = 21 := by omega
  rcases k with rfl
  · exact ⟨T.cb_Reader, T.na_Reader_inside⟩
theorem ga_place_ok {P : Program} {K : PySem.W.Frag} {mg : Str → Option Value} {cls : Nat → Addr} {A : Nat → Addr} {FD : Nat → FuncData} (T : Top P K mg cls A FD) : ∀ c, ga_place c = true → Cls K (cls (c + 3)) ∧ NoAttr K (cls (c + 3)) "place" := by
  intro c h
  unfold ga_place at h
  simp only [Bool.or_eq_true, decide_eq_true_eq] at h
  have k : c = 21 := by omega
  rcases k with rfl
  · exact ⟨T.cb_Reader, T.na_Reader_place⟩
theorem ga_text_ok {P : Program} {K : PySem.W.Frag} {mg : Str → Option Value} {cls : Nat → Addr} {A : Nat → Addr} {FD : Nat → FuncData} (T : Top P K mg cls A FD) : ∀ c, ga_text c = true → Cls K (cls (c + 3)) ∧ NoAttr K (cls (c + 3)) "text" := by
  intro c h
  unfold ga_text at h
  simp only [Bool.or_eq_true, decide_eq_true_eq] at h
  have k : c = 21 := by omega
  rcases k with rfl
  · exact ⟨T.cb_Reader, T.na_Reader_text⟩
theorem gx_place_ok {P : Program} {K : PySem.W.Frag} {mg : Str → Option Value} {cls : Nat → Addr} {A : Nat → Addr} {FD : Nat → FuncData} (T : Top P K mg cls A FD) : ∀ c, gx_place c = true → XfC K (cls (c + 3)) ∧ PySem.W.findIn K (.ref (cls (c + 3))) "place" = some none := by
  intro c h
  unfold gx_place at h
  simp only [Bool.or_eq_true, decide_eq_true_eq] at h
  have k : c = 1 := by omega
  rcases k with rfl
  · exact ⟨⟨T.x_TokenError.hg, T.x_TokenError.hk, T.x_TokenError.hs, T.x_TokenError.hd⟩, T.n_TokenError⟩
structure All (P : Program) (w : World) (K : PySem.W.Frag) (mg : Str → Option Value) (base : Heap) (cls : Nat → Addr) (A : Nat → Addr) (FD : Nat → FuncData) (n : Nat) (R : Rec) : Prop where
  k_1 : FnG P w K mg base (2 * n) (A 1) (FD 1) ["node"] (spD ⟨K, cls⟩ 1 (R 1))
  k_2 : FnG P w K mg base (2 * n) (A 2) (FD 2) ["node"] (spD ⟨K, cls⟩ 1 (R 2))
  k_4 : FnG P w K mg base (2 * n) (A 4) (FD 4) ["node"] (spD ⟨K, cls⟩ 1 (R 4))
  k_5 : FnG P w K mg base (2 * n) (A 5) (FD 5) ["message"] (spD ⟨K, cls⟩ 1 (R 5))
  k_50 : FnG P w K mg base (2 * n) (A 50) (FD 50) ["text"] (spD ⟨K, cls⟩ 1 (R 50))
  k_55 : FnG P w K mg base (2 * n) (A 55) (FD 55) ["sign"] (spD ⟨K, cls⟩ 1 (R 55))
  k_56 : FnG P w K mg base (2 * n) (A 56) (FD 56) ["self", "text"] (spD ⟨K, cls⟩ 2 (R 56))
  k_57 : FnG P w K mg base (2 * n) (A 57) (FD 57) ["self"] (spD ⟨K, cls⟩ 1 (R 57))
  k_58 : FnG P w K mg base (2 * n) (A 58) (FD 58) ["self"] (spD ⟨K, cls⟩ 1 (R 58))
  k_59 : FnG P w K mg base (2 * n) (A 59) (FD 59) ["self", "sign"] (spD ⟨K, cls⟩ 2 (R 59))
  k_60 : FnG P w K mg base (2 * n) (A 60) (FD 60) ["self", "signs"] (spD ⟨K, cls⟩ 2 (R 60))
  k_61 : FnG P w K mg base (2 * n) (A 61) (FD 61) ["self"] (spD ⟨K, cls⟩ 1 (R 61))
  k_62 : FnG P w K mg base (2 * n) (A 62) (FD 62) ["self", "most"] (spD ⟨K, cls⟩ 2 (R 62))
  k_63 : FnG P w K mg base (2 * n) (A 63) (FD 63) ["self"] (spD ⟨K, cls⟩ 1 (R 63))
  k_64 : FnG P w K mg base (2 * n) (A 64) (FD 64) ["self", "kind"] (spD ⟨K, cls⟩ 2 (R 64))
  k_65 : FnG P w K mg base (2 * n) (A 65) (FD 65) ["self", "name", "kind"] (spD ⟨K, cls⟩ 3 (R 65))
  k_66 : FnG P w K mg base (2 * n) (A 66) (FD 66) ["self"] (spD ⟨K, cls⟩ 1 (R 66))
  k_67 : FnG P w K mg base (2 * n) (A 67) (FD 67) ["self"] (spD ⟨K, cls⟩ 1 (R 67))
  k_68 : FnG P w K mg base (2 * n) (A 68) (FD 68) ["self"] (spD ⟨K, cls⟩ 1 (R 68))
  k_69 : FnG P w K mg base (2 * n) (A 69) (FD 69) ["self", "inside"] (spD ⟨K, cls⟩ 2 (R 69))
  k_70 : FnG P w K mg base (2 * n) (A 70) (FD 70) ["text"] (spD ⟨K, cls⟩ 1 (R 70))
  k_1000 : FnG P w K mg base (2 * n) (A 1000) (FD 1000) ["_law_script", "_law_k"] (spD ⟨K, cls⟩ 2 (R 1000))
  k_1001 : FnG P w K mg base (2 * n) (A 1001) (FD 1001) ["_law_script", "_law_first", "_law_last"] (spD ⟨K, cls⟩ 3 (R 1001))
  k_1002 : FnG P w K mg base (2 * n) (A 1002) (FD 1002) ["_law_box", "_law_many"] (spD ⟨K, cls⟩ 2 (R 1002))
  k_1003 : FnG P w K mg base (2 * n) (A 1003) (FD 1003) ["_law_box"] (spD ⟨K, cls⟩ 1 (R 1003))
  k_1004 : FnG P w K mg base (2 * n) (A 1004) (FD 1004) ["_law_box", "_law_depth", "_law_inside"] (spD ⟨K, cls⟩ 3 (R 1004))
  k_1005 : FnG P w K mg base (2 * n) (A 1005) (FD 1005) ["_law_box", "_law_depth"] (spD ⟨K, cls⟩ 2 (R 1005))
  k_1006 : FnG P w K mg base (2 * n) (A 1006) (FD 1006) ["_law_box", "_law_depth", "_law_inside"] (spD ⟨K, cls⟩ 3 (R 1006))
  k_1007 : FnG P w K mg base (2 * n) (A 1007) (FD 1007) ["_law_text"] (spD ⟨K, cls⟩ 1 (R 1007))
  k_1008 : FnG P w K mg base (2 * n) (A 1008) (FD 1008) ["_law_box", "_law_loose"] (spD ⟨K, cls⟩ 2 (R 1008))
  k_1009 : FnG P w K mg base (2 * n) (A 1009) (FD 1009) ["_law_box", "_law_loose"] (spD ⟨K, cls⟩ 2 (R 1009))
  k_1010 : FnG P w K mg base (2 * n) (A 1010) (FD 1010) ["_law_box", "_law_message_here", "_law_loose"] (spD ⟨K, cls⟩ 3 (R 1010))
  k_1011 : FnG P w K mg base (2 * n) (A 1011) (FD 1011) ["_law_text"] (spD ⟨K, cls⟩ 1 (R 1011))
  k_1012 : FnG P w K mg base (2 * n) (A 1012) (FD 1012) ["_law_script"] (spD ⟨K, cls⟩ 1 (R 1012))
section
variable {P : Program} {w : World} {K : PySem.W.Frag} {mg : Str → Option Value} {base : Heap} {cls : Nat → Addr} {A : Nat → Addr} {FD : Nat → FuncData} {n : Nat} {R : Rec}
/-- cases_of -/
theorem W_1 (T : Top P K mg cls A FD) (a : All P w K mg base cls A FD n R) : FnG P w K mg base (2 * n + 1 + 1) (A 1) (FD 1) ["node"] (spD ⟨K, cls⟩ 1 (B_1 R)) :=
  defG_ok T.f_1 sc_1 fun cdv A' outer s H E hr => by
    have tk := takes_of (X := cxOf (L2.CX P w) P w K mg base N_1 "cases_of" (defScope s_1) (A 1) cdv A' outer s H E) rfl rfl rfl rfl
    have hr1 := hr
    have hr := hr1.less (show 2 * n ≤ 2 * n + 1 by omega)
    exact (dss_one (ds_ret (de_sub_ (de_o (de_v 0)) (de_o (de_neg (de_o de_int))))))
/-- other_of -/
theorem W_2 (T : Top P K mg cls A FD) (a : All P w K mg base cls A FD n R) : FnG P w K mg base (2 * n + 1 + 1) (A 2) (FD 2) ["node"] (spD ⟨K, cls⟩ 1 (B_2 R)) :=
  defG_ok T.f_2 sc_2 fun cdv A' outer s H E hr => by
    have tk := takes_of (X := cxOf (L2.CX P w) P w K mg base N_2 "other_of" (defScope s_2) (A 2) cdv A' outer s H E) rfl rfl rfl rfl
    have hr1 := hr
    have hr := hr1.less (show 2 * n ≤ 2 * n + 1 by omega)
    exact (dss_one (ds_ret (de_sub_ (de_o (de_v 0)) (de_o (de_neg (de_o de_int))))))
/-- plain_node -/
theorem W_4 (T : Top P K mg cls A FD) (a : All P w K mg base cls A FD n R) : FnG P w K mg base (2 * n + 1 + 1) (A 4) (FD 4) ["node"] (spD ⟨K, cls⟩ 1 (B_4 R)) :=
  defG_ok T.f_4 sc_4 fun cdv A' outer s H E hr => by
    have tk := takes_of (X := cxOf (L2.CX P w) P w K mg base N_4 "plain_node" (defScope s_4) (A 4) cdv A' outer s H E) rfl rfl rfl rfl
    have hr1 := hr
    have hr := hr1.less (show 2 * n ≤ 2 * n + 1 by omega)
    exact (dss_cons (ds_if (dt_notIn (de_o (de_sub_ (de_o (de_v 0)) (de_o de_int))) (de_o (de_gtup (zs := ["select", "plural"]) T.c_CHOICES)) rfl) (dss_one (ds_ret (de_v 0))) dss_nil) (dss_cons (ds_setC (ps_comp (i := 1) (own := [("key", 2), ("message", 3)]) (p := (.tp [(.nm 2), (.nm 3)])) (ι := (iA (eCall (R 1) (aCons (eV 0) aNil)))) (τ := tTrue) (ε := C_4_1 R) rfl sc_4.nd rfl rfl (sw_true rfl rfl rfl (by decide +kernel)) (di_a (de_callG a.k_1 tk hr rfl T.g_1 T.f_1.kp T.n_1 (da_cons (de_v 0) da_nil) (ALen.cons ALen.nil))) (blkOk_by (N := N_4) (sc := defScope s_4) (own := [("key", 2), ("message", 3)]) (by decide +kernel)) (by decide) (fun _ _ _ _ _ => (pg_tup rfl (pgs_cons (pg_name (i := 2) sc_4.nd rfl (by first | exact Or.inl rfl | exact Or.inr rfl)) (pgs_cons (pg_name (i := 3) sc_4.nd rfl (by first | exact Or.inl rfl | exact Or.inr rfl)) pgs_nil)))) (fun _ _ _ _ _ => dts_nil) (fun _ _ _ _ _ => (de_tup (da_cons (de_v 2) (da_cons (de_callG a.k_5 takes0 hr rfl T.g_5 T.f_5.kp T.n_5 (da_cons (de_v 3) da_nil) (ALen.cons ALen.nil)) da_nil)) ((ALen.cons (ALen.cons ALen.nil)).line (by decide)))))) (dss_one (ds_ret (de_add (de_o (de_cut (de_o (de_v 0)) dp_no (dp_so (de_neg (de_o de_int))))) (de_o (de_tup (da_cons (de_v 1) (da_cons (de_callG a.k_5 tk hr rfl T.g_5 T.f_5.kp T.n_5 (da_cons (de_callG a.k_2 tk hr rfl T.g_2 T.f_2.kp T.n_2 (da_cons (de_v 0) da_nil) (ALen.cons ALen.nil)) da_nil) (ALen.cons ALen.nil)) da_nil)) ((ALen.cons (ALen.cons ALen.nil)).line (by decide)))))))))
/-- plain -/
theorem W_5 (T : Top P K mg cls A FD) (a : All P w K mg base cls A FD n R) : FnG P w K mg base (2 * n + 1 + 1) (A 5) (FD 5) ["message"] (spD ⟨K, cls⟩ 1 (B_5 R)) :=
  defG_ok T.f_5 sc_5 fun cdv A' outer s H E hr => by
    have tk := takes_of (X := cxOf (L2.CX P w) P w K mg base N_5 "plain" (defScope s_5) (A 5) cdv A' outer s H E) rfl rfl rfl rfl
    have hr1 := hr
    have hr := hr1.less (show 2 * n ≤ 2 * n + 1 by omega)
    exact (dss_cons (ds_own (i := 1) sc_5.nd rfl (by first | exact Or.inl rfl | exact Or.inr rfl) (df_lst da_nil ((ALen.nil).line (by decide)))) (dss_cons (ds_for (passes_of rfl) rfl (di_a (de_v 0)) (pg_name (i := 2) sc_5.nd rfl (by first | exact Or.inl rfl | exact Or.inr rfl)) (dss_one (ds_if (dw_t (dw_and (dt_eq hr.units (de_o (de_sub_ (de_o (de_v 2)) (de_o de_int))) (de_o (de_gstr T.c_TEXT))) (dw_and (dt_tru (do_v 1)) (dw_and1 (dt_eq hr.units (de_o (de_sub_ (de_o (de_sub_ (do_v 1) (de_o (de_neg (de_o de_int))))) (de_o de_int))) (de_o (de_gstr T.c_TEXT))))))) (dss_one (ds_setO 1 (pg_sub (pv 1) (de_neg (de_o de_int)) set_list) (de_tup (da_cons (de_gstr T.c_TEXT) (da_cons (de_add (de_o (de_sub_ (de_o (de_sub_ (do_v 1) (de_o (de_neg (de_o de_int))))) (de_o de_int))) (de_o (de_sub_ (de_o (de_v 2)) (de_o de_int)))) da_nil)) ((ALen.cons (ALen.cons ALen.nil)).line (by decide))))) (dss_one (ds_if (dt_ne hr.units (de_o (de_v 2)) (de_o (de_tup (da_cons (de_gstr T.c_TEXT) (da_cons de_str da_nil)) ((ALen.cons (ALen.cons ALen.nil)).line (by decide))))) (dss_one (ds_appO 1 (pe_bm PySem.F.plainAttrs_list PySem.F.slot_list_append PySem.F.type_list_append mt_append (pv 1) (pa_cons (de_callG a.k_4 tk hr rfl T.g_4 T.f_4.kp T.n_4 (da_cons (de_v 2) da_nil) (ALen.cons ALen.nil)) pa_nil)))) dss_nil))))) (dss_one (ds_retO 1))))
/-- format_text -/
theorem W_50 (T : Top P K mg cls A FD) (a : All P w K mg base cls A FD n R) : FnG P w K mg base (2 * n + 1 + 1) (A 50) (FD 50) ["text"] (spD ⟨K, cls⟩ 1 (B_50 R)) :=
  defG_ok T.f_50 sc_50 fun cdv A' outer s H E hr => by
    have tk := takes_of (X := cxOf (L2.CX P w) P w K mg base N_50 "format_text" (defScope s_50) (A 50) cdv A' outer s H E) rfl rfl rfl rfl
    have hr1 := hr
    have hr := hr1.less (show 2 * n ≤ 2 * n + 1 by omega)
    exact (dss_cons (ds_set (i := 1) sc_50.nd rfl (by first | exact Or.inl rfl | exact Or.inr rfl) de_str) (dss_cons (ds_for (passes_of rfl) rfl (di_a (de_v 0)) (pg_name (i := 2) sc_50.nd rfl (by first | exact Or.inl rfl | exact Or.inr rfl)) (dss_one (ds_if (dt_eq hr.units (de_o (de_v 2)) (de_o (de_gstr T.c_QUOTE))) (dss_one (ds_aug (i := 1) sc_50.nd rfl (by first | exact Or.inl rfl | exact Or.inr rfl) (de_add (de_o (de_gstr T.c_QUOTE)) (de_o (de_gstr T.c_QUOTE))) iop_addA ok_addI)) (dss_one (ds_if (dt_in (de_o (de_v 2)) (de_o (de_gstr T.c_ESCAPED)) rfl) (dss_one (ds_aug (i := 1) sc_50.nd rfl (by first | exact Or.inl rfl | exact Or.inr rfl) (de_add (de_o (de_add (de_o (de_gstr T.c_QUOTE)) (de_o (de_v 2)))) (de_o (de_gstr T.c_QUOTE))) iop_addA ok_addI)) (dss_one (ds_aug (i := 1) sc_50.nd rfl (by first | exact Or.inl rfl | exact Or.inr rfl) (de_v 2) iop_addA ok_addI))))))) (dss_one (ds_ret (de_v 1)))))
/-- is_sign -/
theorem W_55 (T : Top P K mg cls A FD) (a : All P w K mg base cls A FD n R) : FnG P w K mg base (2 * n + 1 + 1) (A 55) (FD 55) ["sign"] (spD ⟨K, cls⟩ 1 (B_55 R)) :=
  defG_ok T.f_55 sc_55 fun cdv A' outer s H E hr => by
    have tk := takes_of (X := cxOf (L2.CX P w) P w K mg base N_55 "is_sign" (defScope s_55) (A 55) cdv A' outer s H E) rfl rfl rfl rfl
    have hr1 := hr
    have hr := hr1.less (show 2 * n ≤ 2 * n + 1 by omega)
    exact (dss_one (ds_ret (de_or (de_eq hr.units (de_o (de_v 0)) (de_o de_str)) (de_one (de_chain (de_o de_str) (de_o (de_v 0)) (de_o de_str))))))
/-- Reader.__init__ -/
theorem W_56 (T : Top P K mg cls A FD) (a : All P w K mg base cls A FD n R) : FnG P w K mg base (2 * n + 1 + 1) (A 56) (FD 56) ["self", "text"] (spD ⟨K, cls⟩ 2 (B_56 R)) :=
  defG_ok T.f_56 sc_56 fun cdv A' outer s H E hr => by
    have tk := takes_of (X := cxOf (L2.CX P w) P w K mg base N_56 "Reader.__init__" (defScope s_56) (A 56) cdv A' outer s H E) rfl rfl rfl rfl
    have hr1 := hr
    have hr := hr1.less (show 2 * n ≤ 2 * n + 1 by omega)
    exact (dss_cons (ds_att (ga_text_ok T) (de_v 0) (de_v 1)) (dss_cons (ds_att (ga_place_ok T) (de_v 0) de_int) (dss_one (ds_att (ga_inside_ok T) (de_v 0) de_bl))))
/-- Reader.sign -/
theorem W_57 (T : Top P K mg cls A FD) (a : All P w K mg base cls A FD n R) : FnG P w K mg base (2 * n + 1 + 1) (A 57) (FD 57) ["self"] (spD ⟨K, cls⟩ 1 (B_57 R)) :=
  defG_ok T.f_57 sc_57 fun cdv A' outer s H E hr => by
    have tk := takes_of (X := cxOf (L2.CX P w) P w K mg base N_57 "Reader.sign" (defScope s_57) (A 57) cdv A' outer s H E) rfl rfl rfl rfl
    have hr1 := hr
    have hr := hr1.less (show 2 * n ≤ 2 * n + 1 by omega)
    exact (dss_cons (ds_if (dt_ge (de_o (de_att (ga_place_ok T) (de_v 0))) (de_o (de_len rfl T.b_len (de_o (de_att (ga_text_ok T) (de_v 0)))))) (dss_one (ds_raise0 (c := 2) rfl PySem.F.excBase_ValueError T.q_EndError T.m_EndError T.kp_EndError (L2.raises_own T.ex_EndError T.ty_EndError) tk rfl)) dss_nil) (dss_one (ds_ret (de_sub_ (de_o (de_att (ga_text_ok T) (de_v 0))) (de_o (de_att (ga_place_ok T) (de_v 0)))))))
/-- Reader.skip -/
theorem W_58 (T : Top P K mg cls A FD) (a : All P w K mg base cls A FD n R) : FnG P w K mg base (2 * n + 1 + 1) (A 58) (FD 58) ["self"] (spD ⟨K, cls⟩ 1 (B_58 R)) :=
  defG_ok T.f_58 sc_58 fun cdv A' outer s H E hr => by
    have tk := takes_of (X := cxOf (L2.CX P w) P w K mg base N_58 "Reader.skip" (defScope s_58) (A 58) cdv A' outer s H E) rfl rfl rfl rfl
    have hr1 := hr
    have hr := hr1.less (show 2 * n ≤ 2 * n + 1 by omega)
    exact (dss_one (ds_while (passes_of rfl) (dw_t (dw_and (dt_lt (de_o (de_att (ga_place_ok T) (de_v 0))) (de_o (de_len rfl T.b_len (de_o (de_att (ga_text_ok T) (de_v 0)))))) (dw_and1 (dt_in (de_o (de_sub_ (de_o (de_att (ga_text_ok T) (de_v 0))) (de_o (de_att (ga_place_ok T) (de_v 0))))) (de_o (de_gstr T.c_SPACES)) rfl)))) (dss_one (ds_attA (ga_place_ok T) (de_v 0) de_int))))
/-- Reader.expect -/
theorem W_59 (T : Top P K mg cls A FD) (a : All P w K mg base cls A FD n R) : FnG P w K mg base (2 * n + 1 + 1) (A 59) (FD 59) ["self", "sign"] (spD ⟨K, cls⟩ 2 (B_59 R)) :=
  defG_ok T.f_59 sc_59 fun cdv A' outer s H E hr => by
    have tk := takes_of (X := cxOf (L2.CX P w) P w K mg base N_59 "Reader.expect" (defScope s_59) (A 59) cdv A' outer s H E) rfl rfl rfl rfl
    have hr1 := hr
    have hr := hr1.less (show 2 * n ≤ 2 * n + 1 by omega)
    exact (dss_cons (ds_expr (de_meth0 (c := 21) T.cb_Reader T.g_58 a.k_58 tk hr T.n_58 (de_v 0))) (dss_cons (ds_if (dt_ne hr.units (de_o (de_meth0 (c := 21) T.cb_Reader T.g_57 a.k_57 tk hr T.n_57 (de_v 0))) (de_o (de_v 1))) (dss_one (ds_raise (c := 1) rfl T.e_TokenError T.m_TokenError T.b_super hr tk rfl (de_att (ga_place_ok T) (de_v 0)))) dss_nil) (dss_one (ds_attA (ga_place_ok T) (de_v 0) de_int))))
/-- Reader.run -/
theorem W_60 (T : Top P K mg cls A FD) (a : All P w K mg base cls A FD n R) : FnG P w K mg base (2 * n + 1 + 1) (A 60) (FD 60) ["self", "signs"] (spD ⟨K, cls⟩ 2 (B_60 R)) :=
  defG_ok T.f_60 sc_60 fun cdv A' outer s H E hr => by
    have tk := takes_of (X := cxOf (L2.CX P w) P w K mg base N_60 "Reader.run" (defScope s_60) (A 60) cdv A' outer s H E) rfl rfl rfl rfl
    have hr1 := hr
    have hr := hr1.less (show 2 * n ≤ 2 * n + 1 by omega)
    exact (dss_cons (ds_expr (de_meth0 (c := 21) T.cb_Reader T.g_58 a.k_58 tk hr T.n_58 (de_v 0))) (dss_cons (ds_set (i := 2) sc_60.nd rfl (by first | exact Or.inl rfl | exact Or.inr rfl) (de_att (ga_place_ok T) (de_v 0))) (dss_cons (ds_while (passes_of rfl) (dw_t (dw_and (dt_lt (de_o (de_att (ga_place_ok T) (de_v 0))) (de_o (de_len rfl T.b_len (de_o (de_att (ga_text_ok T) (de_v 0)))))) (dw_and1 (dt_in (de_o (de_sub_ (de_o (de_att (ga_text_ok T) (de_v 0))) (de_o (de_att (ga_place_ok T) (de_v 0))))) (de_o (de_v 1)) rfl)))) (dss_one (ds_attA (ga_place_ok T) (de_v 0) de_int))) (dss_one (ds_ret (de_tup (da_cons (de_cut (de_o (de_att (ga_text_ok T) (de_v 0))) (dp_so (de_v 2)) (dp_so (de_att (ga_place_ok T) (de_v 0)))) (da_cons (de_v 2) da_nil)) ((ALen.cons (ALen.cons ALen.nil)).line (by decide))))))))
/-- Reader.word -/
theorem W_61 (T : Top P K mg cls A FD) (a : All P w K mg base cls A FD n R) : FnG P w K mg base (2 * n + 1 + 1) (A 61) (FD 61) ["self"] (spD ⟨K, cls⟩ 1 (B_61 R)) :=
  defG_ok T.f_61 sc_61 fun cdv A' outer s H E hr => by
    have tk := takes_of (X := cxOf (L2.CX P w) P w K mg base N_61 "Reader.word" (defScope s_61) (A 61) cdv A' outer s H E) rfl rfl rfl rfl
    have hr1 := hr
    have hr := hr1.less (show 2 * n ≤ 2 * n + 1 by omega)
    exact (dss_cons (ds_bind (de_meth (c := 21) T.cb_Reader T.g_60 a.k_60 tk hr T.n_60 (de_v 0) (da_cons (de_gstr T.c_LETTERS) da_nil) (ALen.cons ALen.nil)) (pg_tup rfl (pgs_cons (pg_name (i := 1) sc_61.nd rfl (by first | exact Or.inl rfl | exact Or.inr rfl)) (pgs_cons (pg_name (i := 2) sc_61.nd rfl (by first | exact Or.inl rfl | exact Or.inr rfl)) pgs_nil)))) (dss_cons (ds_if (dt_eq hr.units (de_o (de_v 1)) (de_o de_str)) (dss_one (ds_expr (de_meth0 (c := 21) T.cb_Reader T.g_57 a.k_57 tk hr T.n_57 (de_v 0)))) dss_nil) (dss_cons (ds_if (dt_not (dt_chain (de_o de_int) (de_o (de_len rfl T.b_len (de_o (de_v 1)))) (de_o (de_gint T.c_NAME_MOST)))) (dss_one (ds_raise (c := 1) rfl T.e_TokenError T.m_TokenError T.b_super hr tk rfl (de_v 2))) dss_nil) (dss_one (ds_ret (de_tup (da_cons (de_v 1) (da_cons (de_v 2) da_nil)) ((ALen.cons (ALen.cons ALen.nil)).line (by decide))))))))
/-- Reader.natural -/
theorem W_62 (T : Top P K mg cls A FD) (a : All P w K mg base cls A FD n R) : FnG P w K mg base (2 * n + 1 + 1) (A 62) (FD 62) ["self", "most"] (spD ⟨K, cls⟩ 2 (B_62 R)) :=
  defG_ok T.f_62 sc_62 fun cdv A' outer s H E hr => by
    have tk := takes_of (X := cxOf (L2.CX P w) P w K mg base N_62 "Reader.natural" (defScope s_62) (A 62) cdv A' outer s H E) rfl rfl rfl rfl
    have hr1 := hr
    have hr := hr1.less (show 2 * n ≤ 2 * n + 1 by omega)
    exact (dss_cons (ds_set (i := 2) sc_62.nd rfl (by first | exact Or.inl rfl | exact Or.inr rfl) (de_att (ga_place_ok T) (de_v 0))) (dss_cons (ds_while (passes_of rfl) (dw_t (dw_and (dt_lt (de_o (de_att (ga_place_ok T) (de_v 0))) (de_o (de_len rfl T.b_len (de_o (de_att (ga_text_ok T) (de_v 0)))))) (dw_and1 (dt_in (de_o (de_sub_ (de_o (de_att (ga_text_ok T) (de_v 0))) (de_o (de_att (ga_place_ok T) (de_v 0))))) (de_o (de_gstr T.c_FIGURES)) rfl)))) (dss_one (ds_attA (ga_place_ok T) (de_v 0) de_int))) (dss_cons (ds_set (i := 3) sc_62.nd rfl (by first | exact Or.inl rfl | exact Or.inr rfl) (de_cut (de_o (de_att (ga_text_ok T) (de_v 0))) (dp_so (de_v 2)) (dp_so (de_att (ga_place_ok T) (de_v 0))))) (dss_cons (ds_if (dt_eq hr.units (de_o (de_v 3)) (de_o de_str)) (dss_one (ds_expr (de_meth0 (c := 21) T.cb_Reader T.g_57 a.k_57 tk hr T.n_57 (de_v 0)))) dss_nil) (dss_cons (ds_if (dw_t (dw_or (dt_eq hr.units (de_o (de_v 3)) (de_o de_str)) (dw_or (dt_gt (de_o (de_len rfl T.b_len (de_o (de_v 3)))) (de_o de_int)) (dw_or (dw_t (dw_and (dt_eq hr.units (de_o (de_sub_ (de_o (de_v 3)) (de_o de_int))) (de_o de_str)) (dw_and1 (dt_ne hr.units (de_o (de_v 3)) (de_o de_str))))) (dw_or1 (dt_gt (de_o (de_intc rfl T.b_int (de_o (de_v 3)))) (de_o (de_v 1)))))))) (dss_one (ds_raise (c := 1) rfl T.e_TokenError T.m_TokenError T.b_super hr tk rfl (de_v 2))) dss_nil) (dss_one (ds_ret (de_intc rfl T.b_int (de_o (de_v 3))))))))))
/-- Reader.offset -/
theorem W_63 (T : Top P K mg cls A FD) (a : All P w K mg base cls A FD n R) : FnG P w K mg base (2 * n + 1 + 1) (A 63) (FD 63) ["self"] (spD ⟨K, cls⟩ 1 (B_63 R)) :=
  defG_ok T.f_63 sc_63 fun cdv A' outer s H E hr => by
    have tk := takes_of (X := cxOf (L2.CX P w) P w K mg base N_63 "Reader.offset" (defScope s_63) (A 63) cdv A' outer s H E) rfl rfl rfl rfl
    have hr1 := hr
    have hr := hr1.less (show 2 * n ≤ 2 * n + 1 by omega)
    exact (dss_cons (ds_expr (de_meth0 (c := 21) T.cb_Reader T.g_58 a.k_58 tk hr T.n_58 (de_v 0))) (dss_cons (ds_if (dt_not (dt_tru (de_o (de_st3 (de_att (ga_text_ok T) (de_v 0)) (de_gstr T.c_OFFSET) (de_att (ga_place_ok T) (de_v 0)))))) (dss_one (ds_ret de_int)) dss_nil) (dss_cons (ds_attA (ga_place_ok T) (de_v 0) (de_len rfl T.b_len (de_o (de_gstr T.c_OFFSET)))) (dss_one (ds_ret (de_meth (c := 21) T.cb_Reader T.g_62 a.k_62 tk hr T.n_62 (de_v 0) (da_cons (de_gint T.c_OFFSET_MOST) da_nil) (ALen.cons ALen.nil)))))))
/-- Reader.key -/
theorem W_64 (T : Top P K mg cls A FD) (a : All P w K mg base cls A FD n R) : FnG P w K mg base (2 * n + 1 + 1) (A 64) (FD 64) ["self", "kind"] (spD ⟨K, cls⟩ 2 (B_64 R)) :=
  defG_ok T.f_64 sc_64 fun cdv A' outer s H E hr => by
    have tk := takes_of (X := cxOf (L2.CX P w) P w K mg base N_64 "Reader.key" (defScope s_64) (A 64) cdv A' outer s H E) rfl rfl rfl rfl
    have hr1 := hr
    have hr := hr1.less (show 2 * n ≤ 2 * n + 1 by omega)
    exact (dss_cons (ds_expr (de_meth0 (c := 21) T.cb_Reader T.g_58 a.k_58 tk hr T.n_58 (de_v 0))) (dss_cons (ds_set (i := 2) sc_64.nd rfl (by first | exact Or.inl rfl | exact Or.inr rfl) (de_att (ga_place_ok T) (de_v 0))) (dss_cons (ds_if (dw_t (dw_and (dt_eq hr.units (de_o (de_v 1)) (de_o (de_gstr T.c_PLURAL))) (dw_and1 (dt_eq hr.units (de_o (de_meth0 (c := 21) T.cb_Reader T.g_57 a.k_57 tk hr T.n_57 (de_v 0))) (de_o de_str))))) (dss_cons (ds_attA (ga_place_ok T) (de_v 0) de_int) (dss_one (ds_ret (de_tup (da_cons (de_meth (c := 21) T.cb_Reader T.g_62 a.k_62 tk hr T.n_62 (de_v 0) (da_cons (de_gint T.c_EXACT_MOST) da_nil) (ALen.cons ALen.nil)) (da_cons (de_v 2) da_nil)) ((ALen.cons (ALen.cons ALen.nil)).line (by decide)))))) dss_nil) (dss_cons (ds_bind (de_meth0 (c := 21) T.cb_Reader T.g_61 a.k_61 tk hr T.n_61 (de_v 0)) (pg_tup rfl (pgs_cons (pg_name (i := 3) sc_64.nd rfl (by first | exact Or.inl rfl | exact Or.inr rfl)) (pgs_cons (pg_name (i := 2) sc_64.nd rfl (by first | exact Or.inl rfl | exact Or.inr rfl)) pgs_nil)))) (dss_cons (ds_if (dw_t (dw_and (dt_eq hr.units (de_o (de_v 1)) (de_o (de_gstr T.c_PLURAL))) (dw_and (dt_notIn (de_o (de_v 3)) (de_o (de_gtup (zs := ["zero", "one", "two", "few", "many"]) T.c_CATEGORIES)) rfl) (dw_and1 (dt_ne hr.units (de_o (de_v 3)) (de_o (de_gstr T.c_OTHER))))))) (dss_one (ds_raise (c := 1) rfl T.e_TokenError T.m_TokenError T.b_super hr tk rfl (de_v 2))) dss_nil) (dss_one (ds_ret (de_tup (da_cons (de_v 3) (da_cons (de_v 2) da_nil)) ((ALen.cons (ALen.cons ALen.nil)).line (by decide))))))))))
/-- Reader.choice -/
theorem W_65 (T : Top P K mg cls A FD) (a : All P w K mg base cls A FD n R) : FnG P w K mg base (2 * n + 1 + 1) (A 65) (FD 65) ["self", "name", "kind"] (spD ⟨K, cls⟩ 3 (B_65 R)) :=
  defG_ok T.f_65 sc_65 fun cdv A' outer s H E hr => by
    have tk := takes_of (X := cxOf (L2.CX P w) P w K mg base N_65 "Reader.choice" (defScope s_65) (A 65) cdv A' outer s H E) rfl rfl rfl rfl
    have hr1 := hr
    have hr := hr1.less (show 2 * n ≤ 2 * n + 1 by omega)
    exact (dss_cons (ds_expr (de_meth (c := 21) T.cb_Reader T.g_59 a.k_59 tk hr T.n_59 (de_v 0) (da_cons de_str da_nil) (ALen.cons ALen.nil))) (dss_cons (ds_set (i := 3) sc_65.nd rfl (by first | exact Or.inl rfl | exact Or.inr rfl) (de_tup (da_cons (de_v 2) (da_cons (de_v 1) da_nil)) ((ALen.cons (ALen.cons ALen.nil)).line (by decide)))) (dss_cons (ds_if (dt_eq hr.units (de_o (de_v 2)) (de_o (de_gstr T.c_PLURAL))) (dss_one (ds_set (i := 3) sc_65.nd rfl (by first | exact Or.inl rfl | exact Or.inr rfl) (de_tup (da_cons (de_v 2) (da_cons (de_v 1) (da_cons (de_meth0 (c := 21) T.cb_Reader T.g_63 a.k_63 tk hr T.n_63 (de_v 0)) da_nil))) ((ALen.cons (ALen.cons (ALen.cons ALen.nil))).line (by decide))))) dss_nil) (dss_cons (ds_own (i := 4) sc_65.nd rfl (by first | exact Or.inl rfl | exact Or.inr rfl) (df_lst da_nil ((ALen.nil).line (by decide)))) (dss_one (ds_while (passes_of rfl) (dt_tru (de_o de_bl)) (dss_cons (ds_bind (de_meth (c := 21) T.cb_Reader T.g_64 a.k_64 tk hr T.n_64 (de_v 0) (da_cons (de_v 2) da_nil) (ALen.cons ALen.nil)) (pg_tup rfl (pgs_cons (pg_name (i := 5) sc_65.nd rfl (by first | exact Or.inl rfl | exact Or.inr rfl)) (pgs_cons (pg_name (i := 6) sc_65.nd rfl (by first | exact Or.inl rfl | exact Or.inr rfl)) pgs_nil)))) (dss_cons (ds_if (dt_in (de_o (de_v 5)) (df_o (df_compO (own := [("message", 7), ("other", 8)]) (p := (.tp [(.nm 8), (.nm 7)])) (τ := tTrue) (ε := C_65_1 R) 4 rfl sc_65.nd (pv 4)  (blkOk_by (N := N_65) (sc := defScope s_65) (own := [("message", 7), ("other", 8)]) (by decide +kernel)) (by decide) (fun _ _ _ _ _ => (pg_tup rfl (pgs_cons (pg_name (i := 8) sc_65.nd rfl (by first | exact Or.inl rfl | exact Or.inr rfl)) (pgs_cons (pg_name (i := 7) sc_65.nd rfl (by first | exact Or.inl rfl | exact Or.inr rfl)) pgs_nil)))) (fun _ _ _ _ _ => dts_nil) (fun _ _ _ _ _ => (de_v 8)))) rfl) (dss_one (ds_raise (c := 1) rfl T.e_TokenError T.m_TokenError T.b_super hr tk rfl (de_v 6))) dss_nil) (dss_cons (ds_expr (de_meth (c := 21) T.cb_Reader T.g_59 a.k_59 tk hr T.n_59 (de_v 0) (da_cons de_str da_nil) (ALen.cons ALen.nil))) (dss_cons (ds_set (i := 7) sc_65.nd rfl (by first | exact Or.inl rfl | exact Or.inr rfl) (de_meth (c := 21) T.cb_Reader T.g_69 a.k_69 tk hr T.n_69 (de_v 0) (da_cons (de_or (de_eq hr.units (de_o (de_v 2)) (de_o (de_gstr T.c_PLURAL))) (de_one (de_att (ga_inside_ok T) (de_v 0)))) da_nil) (ALen.cons ALen.nil))) (dss_cons (ds_expr (de_meth (c := 21) T.cb_Reader T.g_59 a.k_59 tk hr T.n_59 (de_v 0) (da_cons de_str da_nil) (ALen.cons ALen.nil))) (dss_cons (ds_if (dt_eq hr.units (de_o (de_v 5)) (de_o (de_gstr T.c_OTHER))) (dss_cons (ds_expr (de_meth (c := 21) T.cb_Reader T.g_59 a.k_59 tk hr T.n_59 (de_v 0) (da_cons de_str da_nil) (ALen.cons ALen.nil))) (dss_settle 4 (dss_one (ds_ret (de_add (de_o (de_v 3)) (de_o (de_tup (da_cons (de_v 4) (da_cons (de_v 7) da_nil)) ((ALen.cons (ALen.cons ALen.nil)).line (by decide))))))))) dss_nil) (dss_one (ds_appO 4 (pe_bm PySem.F.plainAttrs_list PySem.F.slot_list_append PySem.F.type_list_append mt_append (pv 4) (pa_cons (de_tup (da_cons (de_v 5) (da_cons (de_v 7) da_nil)) ((ALen.cons (ALen.cons ALen.nil)).line (by decide))) pa_nil))))))))))))))))
/-- Reader.braces -/
theorem W_66 (T : Top P K mg cls A FD) (a : All P w K mg base cls A FD n R) : FnG P w K mg base (2 * n + 1 + 1) (A 66) (FD 66) ["self"] (spD ⟨K, cls⟩ 1 (B_66 R)) :=
  defG_ok T.f_66 sc_66 fun cdv A' outer s H E hr => by
    have tk := takes_of (X := cxOf (L2.CX P w) P w K mg base N_66 "Reader.braces" (defScope s_66) (A 66) cdv A' outer s H E) rfl rfl rfl rfl
    have hr1 := hr
    have hr := hr1.less (show 2 * n ≤ 2 * n + 1 by omega)
    exact (dss_cons (ds_expr (de_meth (c := 21) T.cb_Reader T.g_59 a.k_59 tk hr T.n_59 (de_v 0) (da_cons de_str da_nil) (ALen.cons ALen.nil))) (dss_cons (ds_bind (de_meth0 (c := 21) T.cb_Reader T.g_61 a.k_61 tk hr T.n_61 (de_v 0)) (pg_tup rfl (pgs_cons (pg_name (i := 1) sc_66.nd rfl (by first | exact Or.inl rfl | exact Or.inr rfl)) (pgs_cons (pg_name (i := 2) sc_66.nd rfl (by first | exact Or.inl rfl | exact Or.inr rfl)) pgs_nil)))) (dss_cons (ds_expr (de_meth0 (c := 21) T.cb_Reader T.g_58 a.k_58 tk hr T.n_58 (de_v 0))) (dss_cons (ds_if (dt_eq hr.units (de_o (de_meth0 (c := 21) T.cb_Reader T.g_57 a.k_57 tk hr T.n_57 (de_v 0))) (de_o de_str)) (dss_cons (ds_attA (ga_place_ok T) (de_v 0) de_int) (dss_one (ds_ret (de_tup (da_cons (de_gstr T.c_SHOW) (da_cons (de_v 1) da_nil)) ((ALen.cons (ALen.cons ALen.nil)).line (by decide)))))) dss_nil) (dss_cons (ds_expr (de_meth (c := 21) T.cb_Reader T.g_59 a.k_59 tk hr T.n_59 (de_v 0) (da_cons de_str da_nil) (ALen.cons ALen.nil))) (dss_cons (ds_bind (de_meth0 (c := 21) T.cb_Reader T.g_61 a.k_61 tk hr T.n_61 (de_v 0)) (pg_tup rfl (pgs_cons (pg_name (i := 3) sc_66.nd rfl (by first | exact Or.inl rfl | exact Or.inr rfl)) (pgs_cons (pg_name (i := 2) sc_66.nd rfl (by first | exact Or.inl rfl | exact Or.inr rfl)) pgs_nil)))) (dss_cons (ds_if (dt_notIn (de_o (de_v 3)) (de_o (de_tup (da_cons (de_gstr T.c_SELECT) (da_cons (de_gstr T.c_PLURAL) da_nil)) ((ALen.cons (ALen.cons ALen.nil)).line (by decide)))) rfl) (dss_one (ds_raise (c := 1) rfl T.e_TokenError T.m_TokenError T.b_super hr tk rfl (de_v 2))) dss_nil) (dss_one (ds_ret (de_meth (c := 21) T.cb_Reader T.g_65 a.k_65 tk hr T.n_65 (de_v 0) (da_cons (de_v 1) (da_cons (de_v 3) da_nil)) (ALen.cons (ALen.cons ALen.nil))))))))))))
/-- Reader.escape -/
theorem W_67 (T : Top P K mg cls A FD) (a : All P w K mg base cls A FD n R) : FnG P w K mg base (2 * n + 1 + 1) (A 67) (FD 67) ["self"] (spD ⟨K, cls⟩ 1 (B_67 R)) :=
  defG_ok T.f_67 sc_67 fun cdv A' outer s H E hr => by
    have tk := takes_of (X := cxOf (L2.CX P w) P w K mg base N_67 "Reader.escape" (defScope s_67) (A 67) cdv A' outer s H E) rfl rfl rfl rfl
    have hr1 := hr
    have hr := hr1.less (show 2 * n ≤ 2 * n + 1 by omega)
    exact (dss_cons (ds_for (passes_of rfl) rfl (di_a (de_gstr T.c_ESCAPED)) (pg_name (i := 1) sc_67.nd rfl (by first | exact Or.inl rfl | exact Or.inr rfl)) (dss_cons (ds_set (i := 2) sc_67.nd rfl (by first | exact Or.inl rfl | exact Or.inr rfl) (de_callG a.k_50 tk hr rfl T.g_50 T.f_50.kp T.n_50 (da_cons (de_v 1) da_nil) (ALen.cons ALen.nil))) (dss_one (ds_if (dt_tru (de_o (de_st3 (de_att (ga_text_ok T) (de_v 0)) (de_v 2) (de_att (ga_place_ok T) (de_v 0))))) (dss_cons (ds_attA (ga_place_ok T) (de_v 0) (de_len rfl T.b_len (de_o (de_v 2)))) (dss_one (ds_ret (de_v 1)))) dss_nil)))) (dss_one (ds_raise (c := 1) rfl T.e_TokenError T.m_TokenError T.b_super hr tk rfl (de_att (ga_place_ok T) (de_v 0)))))
/-- Reader.node -/
theorem W_68 (T : Top P K mg cls A FD) (a : All P w K mg base cls A FD n R) : FnG P w K mg base (2 * n + 1 + 1) (A 68) (FD 68) ["self"] (spD ⟨K, cls⟩ 1 (B_68 R)) :=
  defG_ok T.f_68 sc_68 fun cdv A' outer s H E hr => by
    have tk := takes_of (X := cxOf (L2.CX P w) P w K mg base N_68 "Reader.node" (defScope s_68) (A 68) cdv A' outer s H E) rfl rfl rfl rfl
    have hr1 := hr
    have hr := hr1.less (show 2 * n ≤ 2 * n + 1 by omega)
    exact (dss_cons (ds_set (i := 1) sc_68.nd rfl (by first | exact Or.inl rfl | exact Or.inr rfl) (de_meth0 (c := 21) T.cb_Reader T.g_57 a.k_57 tk hr T.n_57 (de_v 0))) (dss_cons (ds_if (dt_eq hr.units (de_o (de_v 1)) (de_o de_str)) (dss_one (ds_ret (de_meth0 (c := 21) T.cb_Reader T.g_66 a.k_66 tk hr T.n_66 (de_v 0)))) dss_nil) (dss_cons (ds_if (dt_eq hr.units (de_o (de_v 1)) (de_o (de_gstr T.c_QUOTE))) (dss_one (ds_ret (de_tup (da_cons (de_gstr T.c_TEXT) (da_cons (de_meth0 (c := 21) T.cb_Reader T.g_67 a.k_67 tk hr T.n_67 (de_v 0)) da_nil)) ((ALen.cons (ALen.cons ALen.nil)).line (by decide))))) dss_nil) (dss_cons (ds_if (dw_t (dw_and (dt_eq hr.units (de_o (de_v 1)) (de_o de_str)) (dw_and1 (dt_tru (de_o (de_att (ga_inside_ok T) (de_v 0))))))) (dss_cons (ds_attA (ga_place_ok T) (de_v 0) de_int) (dss_one (ds_ret (de_tup (da_cons (de_gstr T.c_NUMBER) da_nil) ((ALen.cons ALen.nil).line (by decide)))))) dss_nil) (dss_cons (ds_if (dw_t (dw_or (dt_in (de_o (de_v 1)) (de_o (de_gstr T.c_ESCAPED)) rfl) (dw_or1 (dt_not (dt_tru (de_o (de_callG a.k_55 tk hr rfl T.g_55 T.f_55.kp T.n_55 (da_cons (de_v 1) da_nil) (ALen.cons ALen.nil)))))))) (dss_one (ds_raise (c := 1) rfl T.e_TokenError T.m_TokenError T.b_super hr tk rfl (de_att (ga_place_ok T) (de_v 0)))) dss_nil) (dss_cons (ds_attA (ga_place_ok T) (de_v 0) de_int) (dss_one (ds_ret (de_tup (da_cons (de_gstr T.c_TEXT) (da_cons (de_v 1) da_nil)) ((ALen.cons (ALen.cons ALen.nil)).line (by decide)))))))))))
/-- Reader.message -/
theorem W_69 (T : Top P K mg cls A FD) (a : All P w K mg base cls A FD n R) : FnG P w K mg base (2 * n + 1 + 1) (A 69) (FD 69) ["self", "inside"] (spD ⟨K, cls⟩ 2 (B_69 R)) :=
  defG_ok T.f_69 sc_69 fun cdv A' outer s H E hr => by
    have tk := takes_of (X := cxOf (L2.CX P w) P w K mg base N_69 "Reader.message" (defScope s_69) (A 69) cdv A' outer s H E) rfl rfl rfl rfl
    have hr1 := hr
    have hr := hr1.less (show 2 * n ≤ 2 * n + 1 by omega)
    exact (dss_cons (ds_set (i := 2) sc_69.nd rfl (by first | exact Or.inl rfl | exact Or.inr rfl) (de_att (ga_inside_ok T) (de_v 0))) (dss_cons (ds_att (ga_inside_ok T) (de_v 0) (de_v 1)) (dss_cons (ds_own (i := 3) sc_69.nd rfl (by first | exact Or.inl rfl | exact Or.inr rfl) (df_lst da_nil ((ALen.nil).line (by decide)))) (dss_cons (ds_while (passes_of rfl) (dw_t (dw_and (dt_lt (de_o (de_att (ga_place_ok T) (de_v 0))) (de_o (de_len rfl T.b_len (de_o (de_att (ga_text_ok T) (de_v 0)))))) (dw_and1 (dt_ne hr.units (de_o (de_sub_ (de_o (de_att (ga_text_ok T) (de_v 0))) (de_o (de_att (ga_place_ok T) (de_v 0))))) (de_o de_str))))) (dss_one (ds_appO 3 (pe_bm PySem.F.plainAttrs_list PySem.F.slot_list_append PySem.F.type_list_append mt_append (pv 3) (pa_cons (de_meth0 (c := 21) T.cb_Reader T.g_68 a.k_68 tk hr T.n_68 (de_v 0)) pa_nil))))) (dss_cons (ds_att (ga_inside_ok T) (de_v 0) (de_v 2)) (dss_one (ds_retO 3)))))))
/-- parse_message -/
theorem W_70 (T : Top P K mg cls A FD) (a : All P w K mg base cls A FD n R) : FnG P w K mg base (2 * n + 1 + 1) (A 70) (FD 70) ["text"] (spD ⟨K, cls⟩ 1 (B_70 R)) :=
  defG_ok T.f_70 sc_70 fun cdv A' outer s H E hr => by
    have tk := takes_of (X := cxOf (L2.CX P w) P w K mg base N_70 "parse_message" (defScope s_70) (A 70) cdv A' outer s H E) rfl rfl rfl rfl
    have hr1 := hr
    have hr := hr1.less (show 2 * n ≤ 2 * n + 1 by omega)
    exact (dss_cons (ds_set (i := 1) sc_70.nd rfl (by first | exact Or.inl rfl | exact Or.inr rfl) (de_make (c := 21) T.mk_Reader a.k_56 tk hr1 rfl T.m_Reader T.n_56 (da_cons (de_v 0) da_nil) (ALen.cons ALen.nil))) (dss_cons (ds_set (i := 2) sc_70.nd rfl (by first | exact Or.inl rfl | exact Or.inr rfl) (de_meth (c := 21) T.cb_Reader T.g_69 a.k_69 tk hr T.n_69 (de_v 1) (da_cons de_bl da_nil) (ALen.cons ALen.nil))) (dss_cons (ds_if (dt_lt (de_o (de_att (ga_place_ok T) (de_v 1))) (de_o (de_len rfl T.b_len (de_o (de_v 0))))) (dss_one (ds_raise (c := 1) rfl T.e_TokenError T.m_TokenError T.b_super hr tk rfl (de_att (ga_place_ok T) (de_v 1)))) dss_nil) (dss_one (ds_ret (de_callG a.k_5 tk hr rfl T.g_5 T.f_5.kp T.n_5 (da_cons (de_v 2) da_nil) (ALen.cons ALen.nil)))))))
/-- _law_cell -/
theorem W_1000 (T : Top P K mg cls A FD) (a : All P w K mg base cls A FD n R) : FnG P w K mg base (2 * n + 1 + 1) (A 1000) (FD 1000) ["_law_script", "_law_k"] (spD ⟨K, cls⟩ 2 (B_1000 R)) :=
  defG_ok T.f_1000 sc_1000 fun cdv A' outer s H E hr => by
    have tk := takes_of (X := cxOf (L2.CX P w) P w K mg base N_1000 "_law_cell" (defScope s_1000) (A 1000) cdv A' outer s H E) rfl rfl rfl rfl
    have hr1 := hr
    have hr := hr1.less (show 2 * n ≤ 2 * n + 1 by omega)
    exact (dss_cons (ds_if (dt_lt (de_o (de_v 1)) (de_o (de_len rfl T.b_len (de_o (de_v 0))))) (dss_one (ds_ret (de_sub_ (de_o (de_v 0)) (de_o (de_v 1))))) dss_nil) (dss_one (ds_ret de_int)))
/-- _law_digits -/
theorem W_1001 (T : Top P K mg cls A FD) (a : All P w K mg base cls A FD n R) : FnG P w K mg base (2 * n + 1 + 1) (A 1001) (FD 1001) ["_law_script", "_law_first", "_law_last"] (spD ⟨K, cls⟩ 3 (B_1001 R)) :=
  defG_ok T.f_1001 sc_1001 fun cdv A' outer s H E hr => by
    have tk := takes_of (X := cxOf (L2.CX P w) P w K mg base N_1001 "_law_digits" (defScope s_1001) (A 1001) cdv A' outer s H E) rfl rfl rfl rfl
    have hr1 := hr
    have hr := hr1.less (show 2 * n ≤ 2 * n + 1 by omega)
    exact (dss_cons (ds_own (i := 3) sc_1001.nd rfl (by first | exact Or.inl rfl | exact Or.inr rfl) (df_lst da_nil ((ALen.nil).line (by decide)))) (dss_cons (ds_for (passes_of rfl) rfl (di_r2 rfl T.b_range (de_v 1) (de_v 2)) (pg_name (i := 4) sc_1001.nd rfl (by first | exact Or.inl rfl | exact Or.inr rfl)) (dss_cons (ds_set (i := 5) sc_1001.nd rfl (by first | exact Or.inl rfl | exact Or.inr rfl) (de_callG a.k_1000 tk hr rfl T.g_1000 T.f_1000.kp T.n_1000 (da_cons (de_v 0) (da_cons (de_v 4) da_nil)) (ALen.cons (ALen.cons ALen.nil)))) (dss_cons (ds_if (dt_lt (de_o (de_v 5)) (de_o de_int)) (dss_one (ds_set (i := 5) sc_1001.nd rfl (by first | exact Or.inl rfl | exact Or.inr rfl) (de_sub (de_o de_int) (de_o (de_mul (de_o de_int) (de_o (de_v 5))))))) dss_nil) (dss_one (ds_if (dt_ge (de_o (de_v 5)) (de_o (de_pow (de_o de_int) (de_o de_int)))) (dss_one (ds_for (passes_of rfl) rfl (di_r1 rfl T.b_range de_int) (pg_name (i := 6) sc_1001.nd rfl (by first | exact Or.inl rfl | exact Or.inr rfl)) (dss_one (ds_if (dt_gt (de_o (de_v 5)) (de_o de_int)) (dss_cons (ds_appO 3 (pe_bm PySem.F.plainAttrs_list PySem.F.slot_list_append PySem.F.type_list_append mt_append (pv 3) (pa_cons (de_mod (de_o (de_intc rfl T.b_int (de_o (de_v 5)))) (de_o de_int)) pa_nil))) (dss_one (ds_set (i := 5) sc_1001.nd rfl (by first | exact Or.inl rfl | exact Or.inr rfl) (de_div (de_o (de_v 5)) (de_o de_int))))) dss_nil)))) (dss_cons (ds_set (i := 7) sc_1001.nd rfl (by first | exact Or.inl rfl | exact Or.inr rfl) (de_mod (de_o (de_intc rfl T.b_int (de_o (de_add (de_o (de_add (de_o (de_mul (de_o (de_v 5)) (de_o de_int))) (de_o (de_mul (de_o (de_v 4)) (de_o de_int))))) (de_o de_int))))) (de_o de_int))) (dss_clr [6] (dss_one (ds_for (passes_of rfl) rfl (di_r1 rfl T.b_range de_int) (pg_name (i := 6) sc_1001.nd rfl (by first | exact Or.inl rfl | exact Or.inr rfl)) (dss_cons (ds_set (i := 7) sc_1001.nd rfl (by first | exact Or.inl rfl | exact Or.inr rfl) (de_mod (de_o (de_intc rfl T.b_int (de_o (de_add (de_o (de_add (de_o (de_mul (de_o (de_v 7)) (de_o de_int))) (de_o (de_mul (de_o de_int) (de_o (de_v 6)))))) (de_o de_int))))) (de_o de_int))) (dss_one (ds_appO 3 (pe_bm PySem.F.plainAttrs_list PySem.F.slot_list_append PySem.F.type_list_append mt_append (pv 3) (pa_cons (de_mod (de_o (de_intc rfl T.b_int (de_o (de_div (de_o (de_v 7)) (de_o de_int))))) (de_o de_int)) pa_nil)))))))))))))) (dss_one (ds_retO 3))))
/-- _law_draw -/
theorem W_1002 (T : Top P K mg cls A FD) (a : All P w K mg base cls A FD n R) : FnG P w K mg base (2 * n + 1 + 1) (A 1002) (FD 1002) ["_law_box", "_law_many"] (spD ⟨K, cls⟩ 2 (B_1002 R)) :=
  defG_ok T.f_1002 sc_1002 fun cdv A' outer s H E hr => by
    have tk := takes_of (X := cxOf (L2.CX P w) P w K mg base N_1002 "_law_draw" (defScope s_1002) (A 1002) cdv A' outer s H E) rfl rfl rfl rfl
    have hr1 := hr
    have hr := hr1.less (show 2 * n ≤ 2 * n + 1 by omega)
    exact (dss_cons (ds_set (i := 2) sc_1002.nd rfl (by first | exact Or.inl rfl | exact Or.inr rfl) (de_sub_ (de_o (de_v 0)) (de_o de_int))) (dss_cons (ds_setP (pg_sub (de_v 0) de_int set_list) (de_add (de_o (de_v 2)) (de_o de_int))) (dss_cons (ds_if (dt_lt (de_o (de_v 2)) (de_o (de_len rfl T.b_len (de_o (de_sub_ (de_o (de_v 0)) (de_o de_int)))))) (dss_one (ds_ret (de_mod (de_o (de_intc rfl T.b_int (de_o (de_sub_ (de_o (de_sub_ (de_o (de_v 0)) (de_o de_int))) (de_o (de_v 2)))))) (de_o (de_v 1))))) dss_nil) (dss_one (ds_ret de_int)))))
/-- _law_string -/
theorem W_1003 (T : Top P K mg cls A FD) (a : All P w K mg base cls A FD n R) : FnG P w K mg base (2 * n + 1 + 1) (A 1003) (FD 1003) ["_law_box"] (spD ⟨K, cls⟩ 1 (B_1003 R)) :=
  defG_ok T.f_1003 sc_1003 fun cdv A' outer s H E hr => by
    have tk := takes_of (X := cxOf (L2.CX P w) P w K mg base N_1003 "_law_string" (defScope s_1003) (A 1003) cdv A' outer s H E) rfl rfl rfl rfl
    have hr1 := hr
    have hr := hr1.less (show 2 * n ≤ 2 * n + 1 by omega)
    exact (dss_one (ds_ret (de_sub_ (df_o (df_lst (da_cons de_str (da_cons de_str (da_cons de_str (da_cons de_str (da_cons de_str (da_cons de_str (da_cons de_str (da_cons de_str (da_cons de_str (da_cons de_str da_nil)))))))))) ((ALen.cons (ALen.cons (ALen.cons (ALen.cons (ALen.cons (ALen.cons (ALen.cons (ALen.cons (ALen.cons (ALen.cons ALen.nil)))))))))).line (by decide)))) (de_o (de_callG a.k_1002 tk hr rfl T.g_1002 T.f_1002.kp T.n_1002 (da_cons (de_v 0) (da_cons de_int da_nil)) (ALen.cons (ALen.cons ALen.nil)))))))
/-- _law_select -/
theorem W_1004 (T : Top P K mg cls A FD) (a : All P w K mg base cls A FD n R) : FnG P w K mg base (2 * n + 1 + 1) (A 1004) (FD 1004) ["_law_box", "_law_depth", "_law_inside"] (spD ⟨K, cls⟩ 3 (B_1004 R)) :=
  defG_ok T.f_1004 sc_1004 fun cdv A' outer s H E hr => by
    have tk := takes_of (X := cxOf (L2.CX P w) P w K mg base N_1004 "_law_select" (defScope s_1004) (A 1004) cdv A' outer s H E) rfl rfl rfl rfl
    have hr1 := hr
    have hr := hr1.less (show 2 * n ≤ 2 * n + 1 by omega)
    exact (dss_cons (ds_own (i := 3) sc_1004.nd rfl (by first | exact Or.inl rfl | exact Or.inr rfl) (df_lst da_nil ((ALen.nil).line (by decide)))) (dss_cons (ds_for (passes_of rfl) rfl (di_a (df_e (df_lst (da_cons de_str (da_cons de_str (da_cons de_str da_nil))) ((ALen.cons (ALen.cons (ALen.cons ALen.nil))).line (by decide))))) (pg_name (i := 4) sc_1004.nd rfl (by first | exact Or.inl rfl | exact Or.inr rfl)) (dss_one (ds_if (dt_eq hr.units (de_o (de_callG a.k_1002 tk hr rfl T.g_1002 T.f_1002.kp T.n_1002 (da_cons (de_v 0) (da_cons de_int da_nil)) (ALen.cons (ALen.cons ALen.nil)))) (de_o de_int)) (dss_one (ds_appO 3 (pe_bm PySem.F.plainAttrs_list PySem.F.slot_list_append PySem.F.type_list_append mt_append (pv 3) (pa_cons (de_tup (da_cons (de_v 4) (da_cons (de_callG a.k_1006 tk hr rfl T.g_1006 T.f_1006.kp T.n_1006 (da_cons (de_v 0) (da_cons (de_sub (de_o (de_v 1)) (de_o de_int)) (da_cons (de_v 2) da_nil))) (ALen.cons (ALen.cons (ALen.cons ALen.nil)))) da_nil)) ((ALen.cons (ALen.cons ALen.nil)).line (by decide))) pa_nil)))) dss_nil))) (dss_settle 3 (dss_one (ds_ret (de_tup (da_cons de_str (da_cons (de_sub_ (df_o (df_lst (da_cons de_str (da_cons de_str da_nil)) ((ALen.cons (ALen.cons ALen.nil)).line (by decide)))) (de_o (de_callG a.k_1002 tk hr rfl T.g_1002 T.f_1002.kp T.n_1002 (da_cons (de_v 0) (da_cons de_int da_nil)) (ALen.cons (ALen.cons ALen.nil))))) (da_cons (de_v 3) (da_cons (de_callG a.k_1006 tk hr rfl T.g_1006 T.f_1006.kp T.n_1006 (da_cons (de_v 0) (da_cons (de_sub (de_o (de_v 1)) (de_o de_int)) (da_cons (de_v 2) da_nil))) (ALen.cons (ALen.cons (ALen.cons ALen.nil)))) da_nil)))) ((ALen.cons (ALen.cons (ALen.cons (ALen.cons ALen.nil)))).line (by decide))))))))
/-- _law_plural -/
theorem W_1005 (T : Top P K mg cls A FD) (a : All P w K mg base cls A FD n R) : FnG P w K mg base (2 * n + 1 + 1) (A 1005) (FD 1005) ["_law_box", "_law_depth"] (spD ⟨K, cls⟩ 2 (B_1005 R)) :=
  defG_ok T.f_1005 sc_1005 fun cdv A' outer s H E hr => by
    have tk := takes_of (X := cxOf (L2.CX P w) P w K mg base N_1005 "_law_plural" (defScope s_1005) (A 1005) cdv A' outer s H E) rfl rfl rfl rfl
    have hr1 := hr
    have hr := hr1.less (show 2 * n ≤ 2 * n + 1 by omega)
    exact (dss_cons (ds_own (i := 2) sc_1005.nd rfl (by first | exact Or.inl rfl | exact Or.inr rfl) (df_lst da_nil ((ALen.nil).line (by decide)))) (dss_cons (ds_for (passes_of rfl) rfl (di_a (df_e (df_lst (da_cons de_int (da_cons de_int (da_cons de_int (da_cons de_int (da_cons de_str (da_cons de_str (da_cons de_str (da_cons de_str (da_cons de_str da_nil))))))))) ((ALen.cons (ALen.cons (ALen.cons (ALen.cons (ALen.cons (ALen.cons (ALen.cons (ALen.cons (ALen.cons ALen.nil))))))))).line (by decide))))) (pg_name (i := 3) sc_1005.nd rfl (by first | exact Or.inl rfl | exact Or.inr rfl)) (dss_one (ds_if (dt_eq hr.units (de_o (de_callG a.k_1002 tk hr rfl T.g_1002 T.f_1002.kp T.n_1002 (da_cons (de_v 0) (da_cons de_int da_nil)) (ALen.cons (ALen.cons ALen.nil)))) (de_o de_int)) (dss_one (ds_appO 2 (pe_bm PySem.F.plainAttrs_list PySem.F.slot_list_append PySem.F.type_list_append mt_append (pv 2) (pa_cons (de_tup (da_cons (de_v 3) (da_cons (de_callG a.k_1006 tk hr rfl T.g_1006 T.f_1006.kp T.n_1006 (da_cons (de_v 0) (da_cons (de_sub (de_o (de_v 1)) (de_o de_int)) (da_cons de_bl da_nil))) (ALen.cons (ALen.cons (ALen.cons ALen.nil)))) da_nil)) ((ALen.cons (ALen.cons ALen.nil)).line (by decide))) pa_nil)))) dss_nil))) (dss_cons (ds_if (dt_eq hr.units (de_o (de_callG a.k_1002 tk hr rfl T.g_1002 T.f_1002.kp T.n_1002 (da_cons (de_v 0) (da_cons de_int da_nil)) (ALen.cons (ALen.cons ALen.nil)))) (de_o de_int)) (dss_one (ds_revO 2 (pe_bm0 PySem.F.plainAttrs_list PySem.F.slot_list_reverse PySem.F.type_list_reverse mt_reverse (pv 2)))) dss_nil) (dss_settle 2 (dss_one (ds_ret (de_tup (da_cons de_str (da_cons (de_sub_ (df_o (df_lst (da_cons de_str (da_cons de_str da_nil)) ((ALen.cons (ALen.cons ALen.nil)).line (by decide)))) (de_o (de_callG a.k_1002 tk hr rfl T.g_1002 T.f_1002.kp T.n_1002 (da_cons (de_v 0) (da_cons de_int da_nil)) (ALen.cons (ALen.cons ALen.nil))))) (da_cons (de_sub_ (df_o (df_lst (da_cons de_int (da_cons de_int (da_cons de_int (da_cons de_int da_nil)))) ((ALen.cons (ALen.cons (ALen.cons (ALen.cons ALen.nil)))).line (by decide)))) (de_o (de_callG a.k_1002 tk hr rfl T.g_1002 T.f_1002.kp T.n_1002 (da_cons (de_v 0) (da_cons de_int da_nil)) (ALen.cons (ALen.cons ALen.nil))))) (da_cons (de_v 2) (da_cons (de_callG a.k_1006 tk hr rfl T.g_1006 T.f_1006.kp T.n_1006 (da_cons (de_v 0) (da_cons (de_sub (de_o (de_v 1)) (de_o de_int)) (da_cons de_bl da_nil))) (ALen.cons (ALen.cons (ALen.cons ALen.nil)))) da_nil))))) ((ALen.cons (ALen.cons (ALen.cons (ALen.cons (ALen.cons ALen.nil))))).line (by decide)))))))))
/-- _law_message -/
theorem W_1006 (T : Top P K mg cls A FD) (a : All P w K mg base cls A FD n R) : FnG P w K mg base (2 * n + 1 + 1) (A 1006) (FD 1006) ["_law_box", "_law_depth", "_law_inside"] (spD ⟨K, cls⟩ 3 (B_1006 R)) :=
  defG_ok T.f_1006 sc_1006 fun cdv A' outer s H E hr => by
    have tk := takes_of (X := cxOf (L2.CX P w) P w K mg base N_1006 "_law_message" (defScope s_1006) (A 1006) cdv A' outer s H E) rfl rfl rfl rfl
    have hr1 := hr
    have hr := hr1.less (show 2 * n ≤ 2 * n + 1 by omega)
    exact (dss_cons (ds_own (i := 3) sc_1006.nd rfl (by first | exact Or.inl rfl | exact Or.inr rfl) (df_lst da_nil ((ALen.nil).line (by decide)))) (dss_cons (ds_for (passes_of rfl) rfl (di_r1 rfl T.b_range (de_callG a.k_1002 tk hr rfl T.g_1002 T.f_1002.kp T.n_1002 (da_cons (de_v 0) (da_cons de_int da_nil)) (ALen.cons (ALen.cons ALen.nil)))) (pg_name (i := 4) sc_1006.nd rfl (by first | exact Or.inl rfl | exact Or.inr rfl)) (dss_cons (ds_set (i := 5) sc_1006.nd rfl (by first | exact Or.inl rfl | exact Or.inr rfl) (de_callG a.k_1002 tk hr rfl T.g_1002 T.f_1002.kp T.n_1002 (da_cons (de_v 0) (da_cons de_int da_nil)) (ALen.cons (ALen.cons ALen.nil)))) (dss_one (ds_if (dw_t (dw_or (dt_lt (de_o (de_v 5)) (de_o de_int)) (dw_or1 (dw_t (dw_and (dt_eq hr.units (de_o (de_v 1)) (de_o de_int)) (dw_and1 (dt_gt (de_o (de_v 5)) (de_o de_int)))))))) (dss_one (ds_if (dw_t (dw_or (dt_eq hr.units (de_o (de_len rfl T.b_len (do_v 3))) (de_o de_int)) (dw_or1 (dt_ne hr.units (de_o (de_sub_ (de_o (de_sub_ (do_v 3) (de_o (de_neg (de_o de_int))))) (de_o de_int))) (de_o de_str))))) (dss_one (ds_appO 3 (pe_bm PySem.F.plainAttrs_list PySem.F.slot_list_append PySem.F.type_list_append mt_append (pv 3) (pa_cons (de_tup (da_cons de_str (da_cons (de_callG a.k_1003 tk hr rfl T.g_1003 T.f_1003.kp T.n_1003 (da_cons (de_v 0) da_nil) (ALen.cons ALen.nil)) da_nil)) ((ALen.cons (ALen.cons ALen.nil)).line (by decide))) pa_nil)))) dss_nil)) (dss_one (ds_if (dt_eq hr.units (de_o (de_v 5)) (de_o de_int)) (dss_one (ds_appO 3 (pe_bm PySem.F.plainAttrs_list PySem.F.slot_list_append PySem.F.type_list_append mt_append (pv 3) (pa_cons (de_tup (da_cons de_str (da_cons (de_sub_ (df_o (df_lst (da_cons de_str (da_cons de_str (da_cons de_str (da_cons de_str da_nil)))) ((ALen.cons (ALen.cons (ALen.cons (ALen.cons ALen.nil)))).line (by decide)))) (de_o (de_callG a.k_1002 tk hr rfl T.g_1002 T.f_1002.kp T.n_1002 (da_cons (de_v 0) (da_cons de_int da_nil)) (ALen.cons (ALen.cons ALen.nil))))) da_nil)) ((ALen.cons (ALen.cons ALen.nil)).line (by decide))) pa_nil)))) (dss_one (ds_if (dt_eq hr.units (de_o (de_v 5)) (de_o de_int)) (dss_one (ds_if (dt_tru (de_o (de_v 2))) (dss_one (ds_appO 3 (pe_bm PySem.F.plainAttrs_list PySem.F.slot_list_append PySem.F.type_list_append mt_append (pv 3) (pa_cons (de_tup (da_cons de_str da_nil) ((ALen.cons ALen.nil).line (by decide))) pa_nil)))) dss_nil)) (dss_one (ds_if (dt_lt (de_o (de_v 5)) (de_o de_int)) (dss_one (ds_appO 3 (pe_bm PySem.F.plainAttrs_list PySem.F.slot_list_append PySem.F.type_list_append mt_append (pv 3) (pa_cons (de_callG a.k_1005 tk hr rfl T.g_1005 T.f_1005.kp T.n_1005 (da_cons (de_v 0) (da_cons (de_v 1) da_nil)) (ALen.cons (ALen.cons ALen.nil))) pa_nil)))) (dss_one (ds_appO 3 (pe_bm PySem.F.plainAttrs_list PySem.F.slot_list_append PySem.F.type_list_append mt_append (pv 3) (pa_cons (de_callG a.k_1004 tk hr rfl T.g_1004 T.f_1004.kp T.n_1004 (da_cons (de_v 0) (da_cons (de_v 1) (da_cons (de_v 2) da_nil))) (ALen.cons (ALen.cons (ALen.cons ALen.nil)))) pa_nil)))))))))))))) (dss_one (ds_retO 3))))
/-- _law_escaped -/
theorem W_1007 (T : Top P K mg cls A FD) (a : All P w K mg base cls A FD n R) : FnG P w K mg base (2 * n + 1 + 1) (A 1007) (FD 1007) ["_law_text"] (spD ⟨K, cls⟩ 1 (B_1007 R)) :=
  defG_ok T.f_1007 sc_1007 fun cdv A' outer s H E hr => by
    have tk := takes_of (X := cxOf (L2.CX P w) P w K mg base N_1007 "_law_escaped" (defScope s_1007) (A 1007) cdv A' outer s H E) rfl rfl rfl rfl
    have hr1 := hr
    have hr := hr1.less (show 2 * n ≤ 2 * n + 1 by omega)
    exact (dss_cons (ds_set (i := 1) sc_1007.nd rfl (by first | exact Or.inl rfl | exact Or.inr rfl) de_str) (dss_cons (ds_for (passes_of rfl) rfl (di_a (de_v 0)) (pg_name (i := 2) sc_1007.nd rfl (by first | exact Or.inl rfl | exact Or.inr rfl)) (dss_one (ds_if (dt_eq hr.units (de_o (de_v 2)) (de_o de_str)) (dss_one (ds_set (i := 1) sc_1007.nd rfl (by first | exact Or.inl rfl | exact Or.inr rfl) (de_add (de_o (de_v 1)) (de_o de_str)))) (dss_one (ds_if (dt_in (de_o (de_v 2)) (de_o de_str) rfl) (dss_one (ds_set (i := 1) sc_1007.nd rfl (by first | exact Or.inl rfl | exact Or.inr rfl) (de_add (de_o (de_add (de_o (de_add (de_o (de_v 1)) (de_o de_str))) (de_o (de_v 2)))) (de_o de_str)))) (dss_one (ds_set (i := 1) sc_1007.nd rfl (by first | exact Or.inl rfl | exact Or.inr rfl) (de_add (de_o (de_v 1)) (de_o (de_v 2)))))))))) (dss_one (ds_ret (de_v 1)))))
/-- _law_gap -/
theorem W_1008 (T : Top P K mg cls A FD) (a : All P w K mg base cls A FD n R) : FnG P w K mg base (2 * n + 1 + 1) (A 1008) (FD 1008) ["_law_box", "_law_loose"] (spD ⟨K, cls⟩ 2 (B_1008 R)) :=
  defG_ok T.f_1008 sc_1008 fun cdv A' outer s H E hr => by
    have tk := takes_of (X := cxOf (L2.CX P w) P w K mg base N_1008 "_law_gap" (defScope s_1008) (A 1008) cdv A' outer s H E) rfl rfl rfl rfl
    have hr1 := hr
    have hr := hr1.less (show 2 * n ≤ 2 * n + 1 by omega)
    exact (dss_cons (ds_if (dt_not (dt_tru (de_o (de_v 1)))) (dss_one (ds_ret de_str)) dss_nil) (dss_one (ds_ret (de_sub_ (df_o (df_lst (da_cons de_str (da_cons de_str (da_cons de_str (da_cons de_str da_nil)))) ((ALen.cons (ALen.cons (ALen.cons (ALen.cons ALen.nil)))).line (by decide)))) (de_o (de_callG a.k_1002 tk hr rfl T.g_1002 T.f_1002.kp T.n_1002 (da_cons (de_v 0) (da_cons de_int da_nil)) (ALen.cons (ALen.cons ALen.nil))))))))
/-- _law_one_gap -/
theorem W_1009 (T : Top P K mg cls A FD) (a : All P w K mg base cls A FD n R) : FnG P w K mg base (2 * n + 1 + 1) (A 1009) (FD 1009) ["_law_box", "_law_loose"] (spD ⟨K, cls⟩ 2 (B_1009 R)) :=
  defG_ok T.f_1009 sc_1009 fun cdv A' outer s H E hr => by
    have tk := takes_of (X := cxOf (L2.CX P w) P w K mg base N_1009 "_law_one_gap" (defScope s_1009) (A 1009) cdv A' outer s H E) rfl rfl rfl rfl
    have hr1 := hr
    have hr := hr1.less (show 2 * n ≤ 2 * n + 1 by omega)
    exact (dss_cons (ds_if (dt_not (dt_tru (de_o (de_v 1)))) (dss_one (ds_ret de_str)) dss_nil) (dss_one (ds_ret (de_sub_ (df_o (df_lst (da_cons de_str (da_cons de_str (da_cons de_str da_nil))) ((ALen.cons (ALen.cons (ALen.cons ALen.nil))).line (by decide)))) (de_o (de_callG a.k_1002 tk hr rfl T.g_1002 T.f_1002.kp T.n_1002 (da_cons (de_v 0) (da_cons de_int da_nil)) (ALen.cons (ALen.cons ALen.nil))))))))
/-- _law_written -/
theorem W_1010 (T : Top P K mg cls A FD) (a : All P w K mg base cls A FD n R) : FnG P w K mg base (2 * n + 1 + 1) (A 1010) (FD 1010) ["_law_box", "_law_message_here", "_law_loose"] (spD ⟨K, cls⟩ 3 (B_1010 R)) :=
  defG_ok T.f_1010 sc_1010 fun cdv A' outer s H E hr => by
    have tk := takes_of (X := cxOf (L2.CX P w) P w K mg base N_1010 "_law_written" (defScope s_1010) (A 1010) cdv A' outer s H E) rfl rfl rfl rfl
    have hr1 := hr
    have hr := hr1.less (show 2 * n ≤ 2 * n + 1 by omega)
    exact (dss_cons (ds_set (i := 3) sc_1010.nd rfl (by first | exact Or.inl rfl | exact Or.inr rfl) de_str) (dss_cons (ds_for (passes_of rfl) rfl (di_a (de_v 1)) (pg_name (i := 4) sc_1010.nd rfl (by first | exact Or.inl rfl | exact Or.inr rfl)) (dss_one (ds_if (dt_eq hr.units (de_o (de_sub_ (de_o (de_v 4)) (de_o de_int))) (de_o de_str)) (dss_one (ds_set (i := 3) sc_1010.nd rfl (by first | exact Or.inl rfl | exact Or.inr rfl) (de_add (de_o (de_v 3)) (de_o (de_callG a.k_1007 tk hr rfl T.g_1007 T.f_1007.kp T.n_1007 (da_cons (de_sub_ (de_o (de_v 4)) (de_o de_int)) da_nil) (ALen.cons ALen.nil)))))) (dss_one (ds_if (dt_eq hr.units (de_o (de_sub_ (de_o (de_v 4)) (de_o de_int))) (de_o de_str)) (dss_one (ds_set (i := 3) sc_1010.nd rfl (by first | exact Or.inl rfl | exact Or.inr rfl) (de_add (de_o (de_add (de_o (de_add (de_o (de_add (de_o (de_add (de_o (de_v 3)) (de_o de_str))) (de_o (de_callG a.k_1008 tk hr rfl T.g_1008 T.f_1008.kp T.n_1008 (da_cons (de_v 0) (da_cons (de_v 2) da_nil)) (ALen.cons (ALen.cons ALen.nil)))))) (de_o (de_sub_ (de_o (de_v 4)) (de_o de_int))))) (de_o (de_callG a.k_1008 tk hr rfl T.g_1008 T.f_1008.kp T.n_1008 (da_cons (de_v 0) (da_cons (de_v 2) da_nil)) (ALen.cons (ALen.cons ALen.nil)))))) (de_o de_str)))) (dss_one (ds_if (dt_eq hr.units (de_o (de_sub_ (de_o (de_v 4)) (de_o de_int))) (de_o de_str)) (dss_one (ds_set (i := 3) sc_1010.nd rfl (by first | exact Or.inl rfl | exact Or.inr rfl) (de_add (de_o (de_v 3)) (de_o de_str)))) (dss_cons (ds_set (i := 3) sc_1010.nd rfl (by first | exact Or.inl rfl | exact Or.inr rfl) (de_add (de_o (de_add (de_o (de_add (de_o (de_add (de_o (de_add (de_o (de_v 3)) (de_o de_str))) (de_o (de_callG a.k_1008 tk hr rfl T.g_1008 T.f_1008.kp T.n_1008 (da_cons (de_v 0) (da_cons (de_v 2) da_nil)) (ALen.cons (ALen.cons ALen.nil)))))) (de_o (de_sub_ (de_o (de_v 4)) (de_o de_int))))) (de_o (de_callG a.k_1008 tk hr rfl T.g_1008 T.f_1008.kp T.n_1008 (da_cons (de_v 0) (da_cons (de_v 2) da_nil)) (ALen.cons (ALen.cons ALen.nil)))))) (de_o de_str))) (dss_cons (ds_set (i := 3) sc_1010.nd rfl (by first | exact Or.inl rfl | exact Or.inr rfl) (de_add (de_o (de_add (de_o (de_add (de_o (de_add (de_o (de_v 3)) (de_o (de_callG a.k_1009 tk hr rfl T.g_1009 T.f_1009.kp T.n_1009 (da_cons (de_v 0) (da_cons (de_v 2) da_nil)) (ALen.cons (ALen.cons ALen.nil)))))) (de_o (de_sub_ (de_o (de_v 4)) (de_o de_int))))) (de_o (de_callG a.k_1008 tk hr rfl T.g_1008 T.f_1008.kp T.n_1008 (da_cons (de_v 0) (da_cons (de_v 2) da_nil)) (ALen.cons (ALen.cons ALen.nil)))))) (de_o de_str))) (dss_cons (ds_if (dw_t (dw_and (dt_eq hr.units (de_o (de_sub_ (de_o (de_v 4)) (de_o de_int))) (de_o de_str)) (dw_and1 (dt_gt (de_o (de_sub_ (de_o (de_v 4)) (de_o de_int))) (de_o de_int))))) (dss_one (ds_set (i := 3) sc_1010.nd rfl (by first | exact Or.inl rfl | exact Or.inr rfl) (de_add (de_o (de_add (de_o (de_add (de_o (de_v 3)) (de_o (de_callG a.k_1009 tk hr rfl T.g_1009 T.f_1009.kp T.n_1009 (da_cons (de_v 0) (da_cons (de_v 2) da_nil)) (ALen.cons (ALen.cons ALen.nil)))))) (de_o de_str))) (de_o (de_strc rfl T.b_str (de_o (de_sub_ (de_o (de_v 4)) (de_o de_int)))))))) dss_nil) (dss_cons (ds_for (passes_of rfl) rfl (di_a (de_add (de_o (de_sub_ (de_o (de_v 4)) (de_o (de_neg (de_o de_int))))) (df_o (df_lst (da_cons (de_tup (da_cons de_str (da_cons (de_sub_ (de_o (de_v 4)) (de_o (de_neg (de_o de_int)))) da_nil)) ((ALen.cons (ALen.cons ALen.nil)).line (by decide))) da_nil) ((ALen.cons ALen.nil).line (by decide)))))) (pg_tup rfl (pgs_cons (pg_name (i := 5) sc_1010.nd rfl (by first | exact Or.inl rfl | exact Or.inr rfl)) (pgs_cons (pg_name (i := 6) sc_1010.nd rfl (by first | exact Or.inl rfl | exact Or.inr rfl)) pgs_nil))) (dss_cons (ds_set (i := 7) sc_1010.nd rfl (by first | exact Or.inl rfl | exact Or.inr rfl) (de_v 5)) (dss_cons (ds_if (dt_not (dt_tru (de_o (de_isi rfl T.b_isinstance rfl T.b_str (by decide +kernel) (de_o (de_v 5)))))) (dss_one (ds_set (i := 7) sc_1010.nd rfl (by first | exact Or.inl rfl | exact Or.inr rfl) (de_add (de_o de_str) (de_o (de_strc rfl T.b_str (de_o (de_v 5))))))) dss_nil) (dss_one (ds_set (i := 3) sc_1010.nd rfl (by first | exact Or.inl rfl | exact Or.inr rfl) (de_add (de_o (de_add (de_o (de_add (de_o (de_add (de_o (de_add (de_o (de_add (de_o (de_v 3)) (de_o (de_callG a.k_1009 tk hr rfl T.g_1009 T.f_1009.kp T.n_1009 (da_cons (de_v 0) (da_cons (de_v 2) da_nil)) (ALen.cons (ALen.cons ALen.nil)))))) (de_o (de_v 7)))) (de_o (de_callG a.k_1009 tk hr rfl T.g_1009 T.f_1009.kp T.n_1009 (da_cons (de_v 0) (da_cons (de_v 2) da_nil)) (ALen.cons (ALen.cons ALen.nil)))))) (de_o de_str))) (de_o (de_callG a.k_1010 tk hr rfl T.g_1010 T.f_1010.kp T.n_1010 (da_cons (de_v 0) (da_cons (de_v 6) (da_cons (de_v 2) da_nil))) (ALen.cons (ALen.cons (ALen.cons ALen.nil))))))) (de_o de_str))))))) (dss_one (ds_set (i := 3) sc_1010.nd rfl (by first | exact Or.inl rfl | exact Or.inr rfl) (de_add (de_o (de_add (de_o (de_v 3)) (de_o (de_callG a.k_1008 tk hr rfl T.g_1008 T.f_1008.kp T.n_1008 (da_cons (de_v 0) (da_cons (de_v 2) da_nil)) (ALen.cons (ALen.cons ALen.nil)))))) (de_o de_str))))))))))))))) (dss_one (ds_ret (de_v 3)))))
/-- _law_open -/
theorem W_1011 (T : Top P K mg cls A FD) (a : All P w K mg base cls A FD n R) : FnG P w K mg base (2 * n + 1 + 1) (A 1011) (FD 1011) ["_law_text"] (spD ⟨K, cls⟩ 1 (B_1011 R)) :=
  defG_ok T.f_1011 sc_1011 fun cdv A' outer s H E hr => by
    have tk := takes_of (X := cxOf (L2.CX P w) P w K mg base N_1011 "_law_open" (defScope s_1011) (A 1011) cdv A' outer s H E) rfl rfl rfl rfl
    have hr1 := hr
    have hr := hr1.less (show 2 * n ≤ 2 * n + 1 by omega)
    exact (dss_cons (ds_set (i := 1) sc_1011.nd rfl (by first | exact Or.inl rfl | exact Or.inr rfl) de_int) (dss_cons (ds_set (i := 2) sc_1011.nd rfl (by first | exact Or.inl rfl | exact Or.inr rfl) de_int) (dss_cons (ds_set (i := 3) sc_1011.nd rfl (by first | exact Or.inl rfl | exact Or.inr rfl) (de_neg (de_o de_int))) (dss_cons (ds_for (passes_of rfl) rfl (di_r1 rfl T.b_range (de_len rfl T.b_len (de_o (de_v 0)))) (pg_name (i := 4) sc_1011.nd rfl (by first | exact Or.inl rfl | exact Or.inr rfl)) (dss_one (ds_if (dt_lt (de_o (de_v 2)) (de_o (de_len rfl T.b_len (de_o (de_v 0))))) (dss_one (ds_if (dt_eq hr.units (de_o (de_sub_ (de_o (de_v 0)) (de_o (de_v 2)))) (de_o de_str)) (dss_cons (ds_set (i := 3) sc_1011.nd rfl (by first | exact Or.inl rfl | exact Or.inr rfl) (de_v 2)) (dss_one (ds_set (i := 2) sc_1011.nd rfl (by first | exact Or.inl rfl | exact Or.inr rfl) (de_add (de_o (de_add (de_o (de_v 2)) (de_o de_int))) (de_o (de_intc rfl T.b_int (de_o (de_ne hr.units (de_o (de_cut (de_o (de_v 0)) (dp_so (de_v 2)) (dp_so (de_add (de_o (de_v 2)) (de_o de_int))))) (de_o de_str))))))))) (dss_cons (ds_set (i := 1) sc_1011.nd rfl (by first | exact Or.inl rfl | exact Or.inr rfl) (de_sub (de_o (de_add (de_o (de_v 1)) (de_o (de_intc rfl T.b_int (de_o (de_eq hr.units (de_o (de_sub_ (de_o (de_v 0)) (de_o (de_v 2)))) (de_o de_str))))))) (de_o (de_intc rfl T.b_int (de_o (de_eq hr.units (de_o (de_sub_ (de_o (de_v 0)) (de_o (de_v 2)))) (de_o de_str))))))) (dss_one (ds_set (i := 2) sc_1011.nd rfl (by first | exact Or.inl rfl | exact Or.inr rfl) (de_add (de_o (de_v 2)) (de_o de_int))))))) dss_nil))) (dss_cons (ds_if (dt_le (de_o (de_v 2)) (de_o (de_len rfl T.b_len (de_o (de_v 0))))) (dss_one (ds_set (i := 3) sc_1011.nd rfl (by first | exact Or.inl rfl | exact Or.inr rfl) (de_neg (de_o de_int)))) dss_nil) (dss_one (ds_ret (df_e (df_lst (da_cons (de_v 1) (da_cons (de_v 3) da_nil)) ((ALen.cons (ALen.cons ALen.nil)).line (by decide)))))))))))
/-- law -/
theorem W_1012 (T : Top P K mg cls A FD) (a : All P w K mg base cls A FD n R) : FnG P w K mg base (2 * n + 1 + 1) (A 1012) (FD 1012) ["_law_script"] (spD ⟨K, cls⟩ 1 (B_1012 R)) :=
  defG_ok T.f_1012 sc_1012 fun cdv A' outer s H E hr => by
    have tk := takes_of (X := cxOf (L2.CX P w) P w K mg base N_1012 "law" (defScope s_1012) (A 1012) cdv A' outer s H E) rfl rfl rfl rfl
    have hr1 := hr
    have hr := hr1.less (show 2 * n ≤ 2 * n + 1 by omega)
    exact (dss_cons (ds_set (i := 1) sc_1012.nd rfl (by first | exact Or.inl rfl | exact Or.inr rfl) (de_box (df_lst (da_cons (de_callG a.k_1001 tk hr rfl T.g_1001 T.f_1001.kp T.n_1001 (da_cons (de_v 0) (da_cons de_int (da_cons de_int da_nil))) (ALen.cons (ALen.cons (ALen.cons ALen.nil)))) (da_cons de_int da_nil)) ((ALen.cons (ALen.cons ALen.nil)).line (by decide))))) (dss_cons (ds_set (i := 2) sc_1012.nd rfl (by first | exact Or.inl rfl | exact Or.inr rfl) (de_callG a.k_1006 tk hr rfl T.g_1006 T.f_1006.kp T.n_1006 (da_cons (de_v 1) (da_cons de_int (da_cons de_bl da_nil))) (ALen.cons (ALen.cons (ALen.cons ALen.nil))))) (dss_cons (ds_set (i := 3) sc_1012.nd rfl (by first | exact Or.inl rfl | exact Or.inr rfl) (de_callG a.k_1010 tk hr rfl T.g_1010 T.f_1010.kp T.n_1010 (da_cons (de_v 1) (da_cons (de_v 2) (da_cons de_bl da_nil))) (ALen.cons (ALen.cons (ALen.cons ALen.nil))))) (dss_cons (ds_for (passes_of rfl) rfl (di_r1 rfl T.b_range de_int) (pg_name (i := 4) sc_1012.nd rfl (by first | exact Or.inl rfl | exact Or.inr rfl)) (dss_cons (ds_set (i := 5) sc_1012.nd rfl (by first | exact Or.inl rfl | exact Or.inr rfl) (de_cut (de_o (de_v 3)) dp_no (dp_so (de_mod (de_o (de_intc rfl T.b_int (de_o (de_callG a.k_1002 tk hr rfl T.g_1002 T.f_1002.kp T.n_1002 (da_cons (de_v 1) (da_cons de_int da_nil)) (ALen.cons (ALen.cons ALen.nil)))))) (de_o (de_add (de_o (de_len rfl T.b_len (de_o (de_v 3)))) (de_o de_int))))))) (dss_cons (ds_bind (de_callG a.k_1011 tk hr rfl T.g_1011 T.f_1011.kp T.n_1011 (da_cons (de_v 5) da_nil) (ALen.cons ALen.nil)) (pg_unl rfl (pgs_cons (pg_name (i := 6) sc_1012.nd rfl (by first | exact Or.inl rfl | exact Or.inr rfl)) (pgs_cons (pg_name (i := 7) sc_1012.nd rfl (by first | exact Or.inl rfl | exact Or.inr rfl)) pgs_nil)))) (dss_cons (ds_set (i := 8) sc_1012.nd rfl (by first | exact Or.inl rfl | exact Or.inr rfl) de_str) (dss_cons (ds_try_as (i := 9) (CX := cls 3) rfl rfl sc_1012.nd rfl rfl ⟨rfl, by decide, .inl T.m_MessagewaysError⟩ tk (fx_MessagewaysError_ok T) (fun W pn xe tk hp => (dss_one (ds_expr (de_callG a.k_70 tk hr rfl T.g_70 T.f_70.kp T.n_70 (da_cons (de_v 5) da_nil) (ALen.cons ALen.nil))))) (fun a_ oe_ pn_ cls_ su => (dss_cons (ds_set (i := 8) sc_1012.nd rfl (by first | exact Or.inl rfl | exact Or.inr rfl) de_str) (dss_cons (ds_if (dt_tru (de_o (de_isx (CX := cls 5) su 9 rfl T.b_isinstance rfl T.m_EndError (ix_EndError_ok T) (pv 9)))) (dss_one (ds_set (i := 8) sc_1012.nd rfl (by first | exact Or.inl rfl | exact Or.inr rfl) de_str)) dss_nil) (dss_one (ds_if (dt_tru (de_o (de_isx (CX := cls 4) su 9 rfl T.b_isinstance rfl T.m_TokenError (ix_TokenError_ok T) (pv 9)))) (dss_one (ds_set (i := 8) sc_1012.nd rfl (by first | exact Or.inl rfl | exact Or.inr rfl) (de_xf su 9 (gx_place_ok T) (pv 9)))) dss_nil)))))) (dss_one (ds_if (dt_ge (de_o (de_v 7)) (de_o de_int)) (dss_one (ds_if (dt_ne hr.units (de_o (de_v 8)) (de_o (de_v 7))) (dss_one (ds_ret de_bl)) dss_nil)) (dss_one (ds_if (dw_t (dw_and (dt_eq hr.units (de_o (de_v 6)) (de_o de_int)) (dw_and1 (dt_ne hr.units (de_o (de_v 8)) (de_o de_str))))) (dss_one (ds_ret de_bl)) (dss_one (ds_if (dw_t (dw_and (dt_gt (de_o (de_v 6)) (de_o de_int)) (dw_and (dt_ne hr.units (de_o (de_v 8)) (de_o de_str)) (dw_and1 (dw_t (dw_or (dt_not (dt_tru (de_o (de_isi rfl T.b_isinstance rfl T.b_int (by decide +kernel) (de_o (de_v 8)))))) (dw_or1 (dt_lt (de_o (de_v 8)) (de_o (de_sub (de_o (de_len rfl T.b_len (de_o (de_v 5)))) (de_o de_int))))))))))) (dss_one (ds_ret de_bl)) dss_nil))))))))))) (dss_one (ds_ret de_bl))))))
theorem all (T : Top P K mg cls A FD) : ∀ n, All P w K mg base cls A FD n (run n)
  | 0 => ⟨fnG_stuck fun _ _ => rfl, fnG_stuck fun _ _ => rfl, fnG_stuck fun _ _ => rfl, fnG_stuck fun _ _ => rfl, fnG_stuck fun _ _ => rfl, fnG_stuck fun _ _ => rfl, fnG_stuck fun _ _ => rfl, fnG_stuck fun _ _ => rfl, fnG_stuck fun _ _ => rfl, fnG_stuck fun _ _ => rfl, fnG_stuck fun _ _ => rfl, fnG_stuck fun _ _ => rfl, fnG_stuck fun _ _ => rfl, fnG_stuck fun _ _ => rfl, fnG_stuck fun _ _ => rfl, fnG_stuck fun _ _ => rfl, fnG_stuck fun _ _ => rfl, fnG_stuck fun _ _ => rfl, fnG_stuck fun _ _ => rfl, fnG_stuck fun _ _ => rfl, fnG_stuck fun _ _ => rfl, fnG_stuck fun _ _ => rfl, fnG_stuck fun _ _ => rfl, fnG_stuck fun _ _ => rfl, fnG_stuck fun _ _ => rfl, fnG_stuck fun _ _ => rfl, fnG_stuck fun _ _ => rfl, fnG_stuck fun _ _ => rfl, fnG_stuck fun _ _ => rfl, fnG_stuck fun _ _ => rfl, fnG_stuck fun _ _ => rfl, fnG_stuck fun _ _ => rfl, fnG_stuck fun _ _ => rfl, fnG_stuck fun _ _ => rfl⟩
  | n + 1 => ⟨W_1 T (all T n), W_2 T (all T n), W_4 T (all T n), W_5 T (all T n), W_50 T (all T n), W_55 T (all T n), W_56 T (all T n), W_57 T (all T n), W_58 T (all T n), W_59 T (all T n), W_60 T (all T n), W_61 T (all T n), W_62 T (all T n), W_63 T (all T n), W_64 T (all T n), W_65 T (all T n), W_66 T (all T n), W_67 T (all T n), W_68 T (all T n), W_69 T (all T n), W_70 T (all T n), W_1000 T (all T n), W_1001 T (all T n), W_1002 T (all T n), W_1003 T (all T n), W_1004 T (all T n), W_1005 T (all T n), W_1006 T (all T n), W_1007 T (all T n), W_1008 T (all T n), W_1009 T (all T n), W_1010 T (all T n), W_1011 T (all T n), W_1012 T (all T n)⟩
end
theorem all_mk {l : PySem.W.OpenLaw} {w : World} {K : PySem.W.Frag} {h : Heap} {mg : Str → Option Value} {fa : Addr} (X : K.In h) (G : h.Ns mainGlobals mg) (hfa : mg "law" = some (.ref fa))
    {f1 : Addr} {od1 an1 : Option Addr} {sl1 : Array (Option Value)} {oc1 kV1 dc1 pm1 cd1 ct1 : Value}
    (a1 : PySem.W.nsIn K mainGlobals "cases_of" = some (some (.ref f1))) (l1 : K.lookup f1 = some ⟨oc1, od1, .func (PySem.W.fnOf "cases_of" "cases_of" (defArgs s_1) (defBody s_1) (defScope s_1) .none kV1 dc1 pm1 an1 cd1 ct1), sl1⟩) (c1 : PySem.W.codeIn K cd1 "cases_of" = true) (k1 : PySem.W.keepIn K (.ref f1) = true)
    {f2 : Addr} {od2 an2 : Option Addr} {sl2 : Array (Option Value)} {oc2 kV2 dc2 pm2 cd2 ct2 : Value}
    (a2 : PySem.W.nsIn K mainGlobals "other_of" = some (some (.ref f2))) (l2 : K.lookup f2 = some ⟨oc2, od2, .func (PySem.W.fnOf "other_of" "other_of" (defArgs s_2) (defBody s_2) (defScope s_2) .none kV2 dc2 pm2 an2 cd2 ct2), sl2⟩) (c2 : PySem.W.codeIn K cd2 "other_of" = true) (k2 : PySem.W.keepIn K (.ref f2) = true)
    {f4 : Addr} {od4 an4 : Option Addr} {sl4 : Array (Option Value)} {oc4 kV4 dc4 pm4 cd4 ct4 : Value}
    (a4 : PySem.W.nsIn K mainGlobals "plain_node" = some (some (.ref f4))) (l4 : K.lookup f4 = some ⟨oc4, od4, .func (PySem.W.fnOf "plain_node" "plain_node" (defArgs s_4) (defBody s_4) (defScope s_4) .none kV4 dc4 pm4 an4 cd4 ct4), sl4⟩) (c4 : PySem.W.codeIn K cd4 "plain_node" = true) (k4 : PySem.W.keepIn K (.ref f4) = true)
    {f5 : Addr} {od5 an5 : Option Addr} {sl5 : Array (Option Value)} {oc5 kV5 dc5 pm5 cd5 ct5 : Value}
    (a5 : PySem.W.nsIn K mainGlobals "plain" = some (some (.ref f5))) (l5 : K.lookup f5 = some ⟨oc5, od5, .func (PySem.W.fnOf "plain" "plain" (defArgs s_5) (defBody s_5) (defScope s_5) .none kV5 dc5 pm5 an5 cd5 ct5), sl5⟩) (c5 : PySem.W.codeIn K cd5 "plain" = true) (k5 : PySem.W.keepIn K (.ref f5) = true)
    {f50 : Addr} {od50 an50 : Option Addr} {sl50 : Array (Option Value)} {oc50 kV50 dc50 pm50 cd50 ct50 : Value}
    (a50 : PySem.W.nsIn K mainGlobals "format_text" = some (some (.ref f50))) (l50 : K.lookup f50 = some ⟨oc50, od50, .func (PySem.W.fnOf "format_text" "format_text" (defArgs s_50) (defBody s_50) (defScope s_50) .none kV50 dc50 pm50 an50 cd50 ct50), sl50⟩) (c50 : PySem.W.codeIn K cd50 "format_text" = true) (k50 : PySem.W.keepIn K (.ref f50) = true)
    {f55 : Addr} {od55 an55 : Option Addr} {sl55 : Array (Option Value)} {oc55 kV55 dc55 pm55 cd55 ct55 : Value}
    (a55 : PySem.W.nsIn K mainGlobals "is_sign" = some (some (.ref f55))) (l55 : K.lookup f55 = some ⟨oc55, od55, .func (PySem.W.fnOf "is_sign" "is_sign" (defArgs s_55) (defBody s_55) (defScope s_55) .none kV55 dc55 pm55 an55 cd55 ct55), sl55⟩) (c55 : PySem.W.codeIn K cd55 "is_sign" = true) (k55 : PySem.W.keepIn K (.ref f55) = true)
    {f56 : Addr} {od56 an56 : Option Addr} {sl56 : Array (Option Value)} {oc56 kV56 dc56 pm56 cd56 ct56 : Value}
    {CReader : Addr} (a_Reader : PySem.W.nsIn K mainGlobals "Reader" = some (some (.ref CReader))) (pg_Reader : PySem.W.plainGet K CReader Str.empty = true) (hd_Reader : PySem.W.hasDictIn K CReader = true) (po_Reader : PySem.W.plainOver K CReader = true) (sa_Reader : PySem.W.findIn K (.ref CReader) "__setattr__" = some (some (.builtin "object.__setattr__"))) (mk_Reader : PySem.W.makesIn K CReader = true) (kp_Reader : PySem.W.keepIn K (.ref CReader) = true)
    (a56 : PySem.W.findIn K (.ref CReader) "__init__" = some (some (.ref f56))) (i56 : PySem.W.isFn K (.ref f56) = true) (l56 : K.lookup f56 = some ⟨oc56, od56, .func (PySem.W.fnOf "__init__" "Reader.__init__" (defArgs s_56) (defBody s_56) (defScope s_56) .none kV56 dc56 pm56 an56 cd56 ct56), sl56⟩) (c56 : PySem.W.codeIn K cd56 "Reader.__init__" = true) (k56 : PySem.W.keepIn K (.ref f56) = true)
    {f57 : Addr} {od57 an57 : Option Addr} {sl57 : Array (Option Value)} {oc57 kV57 dc57 pm57 cd57 ct57 : Value}
    (a57 : PySem.W.findIn K (.ref CReader) "sign" = some (some (.ref f57))) (i57 : PySem.W.isFn K (.ref f57) = true) (l57 : K.lookup f57 = some ⟨oc57, od57, .func (PySem.W.fnOf "sign" "Reader.sign" (defArgs s_57) (defBody s_57) (defScope s_57) .none kV57 dc57 pm57 an57 cd57 ct57), sl57⟩) (c57 : PySem.W.codeIn K cd57 "Reader.sign" = true) (k57 : PySem.W.keepIn K (.ref f57) = true)
    {f58 : Addr} {od58 an58 : Option Addr} {sl58 : Array (Option Value)} {oc58 kV58 dc58 pm58 cd58 ct58 : Value}
    (a58 : PySem.W.findIn K (.ref CReader) "skip" = some (some (.ref f58))) (i58 : PySem.W.isFn K (.ref f58) = true) (l58 : K.lookup f58 = some ⟨oc58, od58, .func (PySem.W.fnOf "skip" "Reader.skip" (defArgs s_58) (defBody s_58) (defScope s_58) .none kV58 dc58 pm58 an58 cd58 ct58), sl58⟩) (c58 : PySem.W.codeIn K cd58 "Reader.skip" = true) (k58 : PySem.W.keepIn K (.ref f58) = true)
    {f59 : Addr} {od59 an59 : Option Addr} {sl59 : Array (Option Value)} {oc59 kV59 dc59 pm59 cd59 ct59 : Value}
    (a59 : PySem.W.findIn K (.ref CReader) "expect" = some (some (.ref f59))) (i59 : PySem.W.isFn K (.ref f59) = true) (l59 : K.lookup f59 = some ⟨oc59, od59, .func (PySem.W.fnOf "expect" "Reader.expect" (defArgs s_59) (defBody s_59) (defScope s_59) .none kV59 dc59 pm59 an59 cd59 ct59), sl59⟩) (c59 : PySem.W.codeIn K cd59 "Reader.expect" = true) (k59 : PySem.W.keepIn K (.ref f59) = true)
    {f60 : Addr} {od60 an60 : Option Addr} {sl60 : Array (Option Value)} {oc60 kV60 dc60 pm60 cd60 ct60 : Value}
    (a60 : PySem.W.findIn K (.ref CReader) "run" = some (some (.ref f60))) (i60 : PySem.W.isFn K (.ref f60) = true) (l60 : K.lookup f60 = some ⟨oc60, od60, .func (PySem.W.fnOf "run" "Reader.run" (defArgs s_60) (defBody s_60) (defScope s_60) .none kV60 dc60 pm60 an60 cd60 ct60), sl60⟩) (c60 : PySem.W.codeIn K cd60 "Reader.run" = true) (k60 : PySem.W.keepIn K (.ref f60) = true)
    {f61 : Addr} {od61 an61 : Option Addr} {sl61 : Array (Option Value)} {oc61 kV61 dc61 pm61 cd61 ct61 : Value}
    (a61 : PySem.W.findIn K (.ref CReader) "word" = some (some (.ref f61))) (i61 : PySem.W.isFn K (.ref f61) = true) (l61 : K.lookup f61 = some ⟨oc61, od61, .func (PySem.W.fnOf "word" "Reader.word" (defArgs s_61) (defBody s_61) (defScope s_61) .none kV61 dc61 pm61 an61 cd61 ct61), sl61⟩) (c61 : PySem.W.codeIn K cd61 "Reader.word" = true) (k61 : PySem.W.keepIn K (.ref f61) = true)
    {f62 : Addr} {od62 an62 : Option Addr} {sl62 : Array (Option Value)} {oc62 kV62 dc62 pm62 cd62 ct62 : Value}
    (a62 : PySem.W.findIn K (.ref CReader) "natural" = some (some (.ref f62))) (i62 : PySem.W.isFn K (.ref f62) = true) (l62 : K.lookup f62 = some ⟨oc62, od62, .func (PySem.W.fnOf "natural" "Reader.natural" (defArgs s_62) (defBody s_62) (defScope s_62) .none kV62 dc62 pm62 an62 cd62 ct62), sl62⟩) (c62 : PySem.W.codeIn K cd62 "Reader.natural" = true) (k62 : PySem.W.keepIn K (.ref f62) = true)
    {f63 : Addr} {od63 an63 : Option Addr} {sl63 : Array (Option Value)} {oc63 kV63 dc63 pm63 cd63 ct63 : Value}
    (a63 : PySem.W.findIn K (.ref CReader) "offset" = some (some (.ref f63))) (i63 : PySem.W.isFn K (.ref f63) = true) (l63 : K.lookup f63 = some ⟨oc63, od63, .func (PySem.W.fnOf "offset" "Reader.offset" (defArgs s_63) (defBody s_63) (defScope s_63) .none kV63 dc63 pm63 an63 cd63 ct63), sl63⟩) (c63 : PySem.W.codeIn K cd63 "Reader.offset" = true) (k63 : PySem.W.keepIn K (.ref f63) = true)
    {f64 : Addr} {od64 an64 : Option Addr} {sl64 : Array (Option Value)} {oc64 kV64 dc64 pm64 cd64 ct64 : Value}
    (a64 : PySem.W.findIn K (.ref CReader) "key" = some (some (.ref f64))) (i64 : PySem.W.isFn K (.ref f64) = true) (l64 : K.lookup f64 = some ⟨oc64, od64, .func (PySem.W.fnOf "key" "Reader.key" (defArgs s_64) (defBody s_64) (defScope s_64) .none kV64 dc64 pm64 an64 cd64 ct64), sl64⟩) (c64 : PySem.W.codeIn K cd64 "Reader.key" = true) (k64 : PySem.W.keepIn K (.ref f64) = true)
    {f65 : Addr} {od65 an65 : Option Addr} {sl65 : Array (Option Value)} {oc65 kV65 dc65 pm65 cd65 ct65 : Value}
    (a65 : PySem.W.findIn K (.ref CReader) "choice" = some (some (.ref f65))) (i65 : PySem.W.isFn K (.ref f65) = true) (l65 : K.lookup f65 = some ⟨oc65, od65, .func (PySem.W.fnOf "choice" "Reader.choice" (defArgs s_65) (defBody s_65) (defScope s_65) .none kV65 dc65 pm65 an65 cd65 ct65), sl65⟩) (c65 : PySem.W.codeIn K cd65 "Reader.choice" = true) (k65 : PySem.W.keepIn K (.ref f65) = true)
    {f66 : Addr} {od66 an66 : Option Addr} {sl66 : Array (Option Value)} {oc66 kV66 dc66 pm66 cd66 ct66 : Value}
    (a66 : PySem.W.findIn K (.ref CReader) "braces" = some (some (.ref f66))) (i66 : PySem.W.isFn K (.ref f66) = true) (l66 : K.lookup f66 = some ⟨oc66, od66, .func (PySem.W.fnOf "braces" "Reader.braces" (defArgs s_66) (defBody s_66) (defScope s_66) .none kV66 dc66 pm66 an66 cd66 ct66), sl66⟩) (c66 : PySem.W.codeIn K cd66 "Reader.braces" = true) (k66 : PySem.W.keepIn K (.ref f66) = true)
    {f67 : Addr} {od67 an67 : Option Addr} {sl67 : Array (Option Value)} {oc67 kV67 dc67 pm67 cd67 ct67 : Value}
    (a67 : PySem.W.findIn K (.ref CReader) "escape" = some (some (.ref f67))) (i67 : PySem.W.isFn K (.ref f67) = true) (l67 : K.lookup f67 = some ⟨oc67, od67, .func (PySem.W.fnOf "escape" "Reader.escape" (defArgs s_67) (defBody s_67) (defScope s_67) .none kV67 dc67 pm67 an67 cd67 ct67), sl67⟩) (c67 : PySem.W.codeIn K cd67 "Reader.escape" = true) (k67 : PySem.W.keepIn K (.ref f67) = true)
    {f68 : Addr} {od68 an68 : Option Addr} {sl68 : Array (Option Value)} {oc68 kV68 dc68 pm68 cd68 ct68 : Value}
    (a68 : PySem.W.findIn K (.ref CReader) "node" = some (some (.ref f68))) (i68 : PySem.W.isFn K (.ref f68) = true) (l68 : K.lookup f68 = some ⟨oc68, od68, .func (PySem.W.fnOf "node" "Reader.node" (defArgs s_68) (defBody s_68) (defScope s_68) .none kV68 dc68 pm68 an68 cd68 ct68), sl68⟩) (c68 : PySem.W.codeIn K cd68 "Reader.node" = true) (k68 : PySem.W.keepIn K (.ref f68) = true)
    {f69 : Addr} {od69 an69 : Option Addr} {sl69 : Array (Option Value)} {oc69 kV69 dc69 pm69 cd69 ct69 : Value}
    (a69 : PySem.W.findIn K (.ref CReader) "message" = some (some (.ref f69))) (i69 : PySem.W.isFn K (.ref f69) = true) (l69 : K.lookup f69 = some ⟨oc69, od69, .func (PySem.W.fnOf "message" "Reader.message" (defArgs s_69) (defBody s_69) (defScope s_69) .none kV69 dc69 pm69 an69 cd69 ct69), sl69⟩) (c69 : PySem.W.codeIn K cd69 "Reader.message" = true) (k69 : PySem.W.keepIn K (.ref f69) = true)
    {f70 : Addr} {od70 an70 : Option Addr} {sl70 : Array (Option Value)} {oc70 kV70 dc70 pm70 cd70 ct70 : Value}
    (a70 : PySem.W.nsIn K mainGlobals "parse_message" = some (some (.ref f70))) (l70 : K.lookup f70 = some ⟨oc70, od70, .func (PySem.W.fnOf "parse_message" "parse_message" (defArgs s_70) (defBody s_70) (defScope s_70) .none kV70 dc70 pm70 an70 cd70 ct70), sl70⟩) (c70 : PySem.W.codeIn K cd70 "parse_message" = true) (k70 : PySem.W.keepIn K (.ref f70) = true)
    {f1000 : Addr} {od1000 an1000 : Option Addr} {sl1000 : Array (Option Value)} {oc1000 kV1000 dc1000 pm1000 cd1000 ct1000 : Value}
    (a1000 : PySem.W.nsIn K mainGlobals "_law_cell" = some (some (.ref f1000))) (l1000 : K.lookup f1000 = some ⟨oc1000, od1000, .func (PySem.W.fnOf "_law_cell" "_law_cell" (defArgs s_1000) (defBody s_1000) (defScope s_1000) .none kV1000 dc1000 pm1000 an1000 cd1000 ct1000), sl1000⟩) (c1000 : PySem.W.codeIn K cd1000 "_law_cell" = true) (k1000 : PySem.W.keepIn K (.ref f1000) = true)
    {f1001 : Addr} {od1001 an1001 : Option Addr} {sl1001 : Array (Option Value)} {oc1001 kV1001 dc1001 pm1001 cd1001 ct1001 : Value}
    (a1001 : PySem.W.nsIn K mainGlobals "_law_digits" = some (some (.ref f1001))) (l1001 : K.lookup f1001 = some ⟨oc1001, od1001, .func (PySem.W.fnOf "_law_digits" "_law_digits" (defArgs s_1001) (defBody s_1001) (defScope s_1001) .none kV1001 dc1001 pm1001 an1001 cd1001 ct1001), sl1001⟩) (c1001 : PySem.W.codeIn K cd1001 "_law_digits" = true) (k1001 : PySem.W.keepIn K (.ref f1001) = true)
    {f1002 : Addr} {od1002 an1002 : Option Addr} {sl1002 : Array (Option Value)} {oc1002 kV1002 dc1002 pm1002 cd1002 ct1002 : Value}
    (a1002 : PySem.W.nsIn K mainGlobals "_law_draw" = some (some (.ref f1002))) (l1002 : K.lookup f1002 = some ⟨oc1002, od1002, .func (PySem.W.fnOf "_law_draw" "_law_draw" (defArgs s_1002) (defBody s_1002) (defScope s_1002) .none kV1002 dc1002 pm1002 an1002 cd1002 ct1002), sl1002⟩) (c1002 : PySem.W.codeIn K cd1002 "_law_draw" = true) (k1002 : PySem.W.keepIn K (.ref f1002) = true)
    {f1003 : Addr} {od1003 an1003 : Option Addr} {sl1003 : Array (Option Value)} {oc1003 kV1003 dc1003 pm1003 cd1003 ct1003 : Value}
    (a1003 : PySem.W.nsIn K mainGlobals "_law_string" = some (some (.ref f1003))) (l1003 : K.lookup f1003 = some ⟨oc1003, od1003, .func (PySem.W.fnOf "_law_string" "_law_string" (defArgs s_1003) (defBody s_1003) (defScope s_1003) .none kV1003 dc1003 pm1003 an1003 cd1003 ct1003), sl1003⟩) (c1003 : PySem.W.codeIn K cd1003 "_law_string" = true) (k1003 : PySem.W.keepIn K (.ref f1003) = true)
    {f1004 : Addr} {od1004 an1004 : Option Addr} {sl1004 : Array (Option Value)} {oc1004 kV1004 dc1004 pm1004 cd1004 ct1004 : Value}
    (a1004 : PySem.W.nsIn K mainGlobals "_law_select" = some (some (.ref f1004))) (l1004 : K.lookup f1004 = some ⟨oc1004, od1004, .func (PySem.W.fnOf "_law_select" "_law_select" (defArgs s_1004) (defBody s_1004) (defScope s_1004) .none kV1004 dc1004 pm1004 an1004 cd1004 ct1004), sl1004⟩) (c1004 : PySem.W.codeIn K cd1004 "_law_select" = true) (k1004 : PySem.W.keepIn K (.ref f1004) = true)
    {f1005 : Addr} {od1005 an1005 : Option Addr} {sl1005 : Array (Option Value)} {oc1005 kV1005 dc1005 pm1005 cd1005 ct1005 : Value}
    (a1005 : PySem.W.nsIn K mainGlobals "_law_plural" = some (some (.ref f1005))) (l1005 : K.lookup f1005 = some ⟨oc1005, od1005, .func (PySem.W.fnOf "_law_plural" "_law_plural" (defArgs s_1005) (defBody s_1005) (defScope s_1005) .none kV1005 dc1005 pm1005 an1005 cd1005 ct1005), sl1005⟩) (c1005 : PySem.W.codeIn K cd1005 "_law_plural" = true) (k1005 : PySem.W.keepIn K (.ref f1005) = true)
    {f1006 : Addr} {od1006 an1006 : Option Addr} {sl1006 : Array (Option Value)} {oc1006 kV1006 dc1006 pm1006 cd1006 ct1006 : Value}
    (a1006 : PySem.W.nsIn K mainGlobals "_law_message" = some (some (.ref f1006))) (l1006 : K.lookup f1006 = some ⟨oc1006, od1006, .func (PySem.W.fnOf "_law_message" "_law_message" (defArgs s_1006) (defBody s_1006) (defScope s_1006) .none kV1006 dc1006 pm1006 an1006 cd1006 ct1006), sl1006⟩) (c1006 : PySem.W.codeIn K cd1006 "_law_message" = true) (k1006 : PySem.W.keepIn K (.ref f1006) = true)
    {f1007 : Addr} {od1007 an1007 : Option Addr} {sl1007 : Array (Option Value)} {oc1007 kV1007 dc1007 pm1007 cd1007 ct1007 : Value}
    (a1007 : PySem.W.nsIn K mainGlobals "_law_escaped" = some (some (.ref f1007))) (l1007 : K.lookup f1007 = some ⟨oc1007, od1007, .func (PySem.W.fnOf "_law_escaped" "_law_escaped" (defArgs s_1007) (defBody s_1007) (defScope s_1007) .none kV1007 dc1007 pm1007 an1007 cd1007 ct1007), sl1007⟩) (c1007 : PySem.W.codeIn K cd1007 "_law_escaped" = true) (k1007 : PySem.W.keepIn K (.ref f1007) = true)
    {f1008 : Addr} {od1008 an1008 : Option Addr} {sl1008 : Array (Option Value)} {oc1008 kV1008 dc1008 pm1008 cd1008 ct1008 : Value}
    (a1008 : PySem.W.nsIn K mainGlobals "_law_gap" = some (some (.ref f1008))) (l1008 : K.lookup f1008 = some ⟨oc1008, od1008, .func (PySem.W.fnOf "_law_gap" "_law_gap" (defArgs s_1008) (defBody s_1008) (defScope s_1008) .none kV1008 dc1008 pm1008 an1008 cd1008 ct1008), sl1008⟩) (c1008 : PySem.W.codeIn K cd1008 "_law_gap" = true) (k1008 : PySem.W.keepIn K (.ref f1008) = true)
    {f1009 : Addr} {od1009 an1009 : Option Addr} {sl1009 : Array (Option Value)} {oc1009 kV1009 dc1009 pm1009 cd1009 ct1009 : Value}
    (a1009 : PySem.W.nsIn K mainGlobals "_law_one_gap" = some (some (.ref f1009))) (l1009 : K.lookup f1009 = some ⟨oc1009, od1009, .func (PySem.W.fnOf "_law_one_gap" "_law_one_gap" (defArgs s_1009) (defBody s_1009) (defScope s_1009) .none kV1009 dc1009 pm1009 an1009 cd1009 ct1009), sl1009⟩) (c1009 : PySem.W.codeIn K cd1009 "_law_one_gap" = true) (k1009 : PySem.W.keepIn K (.ref f1009) = true)
    {f1010 : Addr} {od1010 an1010 : Option Addr} {sl1010 : Array (Option Value)} {oc1010 kV1010 dc1010 pm1010 cd1010 ct1010 : Value}
    (a1010 : PySem.W.nsIn K mainGlobals "_law_written" = some (some (.ref f1010))) (l1010 : K.lookup f1010 = some ⟨oc1010, od1010, .func (PySem.W.fnOf "_law_written" "_law_written" (defArgs s_1010) (defBody s_1010) (defScope s_1010) .none kV1010 dc1010 pm1010 an1010 cd1010 ct1010), sl1010⟩) (c1010 : PySem.W.codeIn K cd1010 "_law_written" = true) (k1010 : PySem.W.keepIn K (.ref f1010) = true)
    {f1011 : Addr} {od1011 an1011 : Option Addr} {sl1011 : Array (Option Value)} {oc1011 kV1011 dc1011 pm1011 cd1011 ct1011 : Value}
    (a1011 : PySem.W.nsIn K mainGlobals "_law_open" = some (some (.ref f1011))) (l1011 : K.lookup f1011 = some ⟨oc1011, od1011, .func (PySem.W.fnOf "_law_open" "_law_open" (defArgs s_1011) (defBody s_1011) (defScope s_1011) .none kV1011 dc1011 pm1011 an1011 cd1011 ct1011), sl1011⟩) (c1011 : PySem.W.codeIn K cd1011 "_law_open" = true) (k1011 : PySem.W.keepIn K (.ref f1011) = true)
    {f1012 : Addr} {od1012 an1012 : Option Addr} {sl1012 : Array (Option Value)} {oc1012 kV1012 dc1012 pm1012 cd1012 ct1012 : Value}
    (a1012 : PySem.W.nsIn K mainGlobals "law" = some (some (.ref f1012))) (l1012 : K.lookup f1012 = some ⟨oc1012, od1012, .func (PySem.W.fnOf "law" "law" (defArgs s_1012) (defBody s_1012) (defScope s_1012) .none kV1012 dc1012 pm1012 an1012 cd1012 ct1012), sl1012⟩) (c1012 : PySem.W.codeIn K cd1012 "law" = true) (k1012 : PySem.W.keepIn K (.ref f1012) = true)
    (na_Reader_inside : PySem.W.findIn K (.ref CReader) "inside" = some none)
    (na_Reader_place : PySem.W.findIn K (.ref CReader) "place" = some none)
    (na_Reader_text : PySem.W.findIn K (.ref CReader) "text" = some none)
    {CMessagewaysError : Addr} (a_MessagewaysError : PySem.W.nsIn K mainGlobals "MessagewaysError" = some (some (.ref CMessagewaysError)))
    {CTokenError : Addr} (a_TokenError : PySem.W.nsIn K mainGlobals "TokenError" = some (some (.ref CTokenError)))
    {CEndError : Addr} (a_EndError : PySem.W.nsIn K mainGlobals "EndError" = some (some (.ref CEndError)))
    {nmTokenError qTokenError : Str} {NTokenError : Addr} {bsTokenError bmTokenError : List Value} {snTokenError : List Str} {subTokenError : List Value} {abTokenError : Bool} {colTokenError : Option Bool} {ddTokenError : Option Addr} {k0TokenError k1TokenError k2TokenError k3TokenError k5TokenError : Option Value}
    (cl_TokenError : K.lookup CTokenError = some (excClassObj nmTokenError qTokenError CTokenError NTokenError bsTokenError bmTokenError true snTokenError subTokenError abTokenError colTokenError ddTokenError k0TokenError k1TokenError k2TokenError k3TokenError k5TokenError "ValueError.__new__")) (rv_TokenError : PySem.HandSPX.refsVE bmTokenError = true)
    {fITokenError ccTokenError cdaTokenError : Addr} {ocTokenError kVTokenError docTokenError pmTokenError ctTokenError : Value} {odTokenError anTokenError : Option Addr} {oslTokenError : Array (Option Value)}
    (iC_TokenError : PySem.W.findIn K (.ref CTokenError) "__init__" = some (some (.ref fITokenError))) (fn_TokenError : K.lookup fITokenError = some ⟨ocTokenError, odTokenError, .func (PySem.W.ksFn "__init__" "TokenError.__init__" (defArgs (clsSt (topS 2) 0)) (defBody (clsSt (topS 2) 0)) (defScope (clsSt (topS 2) 0)) .none kVTokenError docTokenError pmTokenError anTokenError (.ref cdaTokenError) ctTokenError ccTokenError), oslTokenError⟩) (cod_TokenError : PySem.W.codeIn K (.ref cdaTokenError) "TokenError.__init__" = true)
    (bd_TokenError : ∀ (s : Shared) (u v : Value), BindsTo s (PySem.W.ksFn "__init__" "TokenError.__init__" (defArgs (clsSt (topS 2) 0)) (defBody (clsSt (topS 2) 0)) (defScope (clsSt (topS 2) 0)) .none kVTokenError docTokenError pmTokenError anTokenError (.ref cdaTokenError) ctTokenError ccTokenError) ⟨[u, v], []⟩ [("self", u), ("place", v)])
    {cc1TokenError : Value} {cc2TokenError : Option Addr} {cc3TokenError : Array (Option Value)} (cell_TokenError : K.lookup ccTokenError = some ⟨cc1TokenError, cc2TokenError, .cell (some (.ref CTokenError)), cc3TokenError⟩)
    {cd1TokenError : Value} {cd2TokenError : Option Addr} {cd3TokenError : Array Value} {cd4TokenError : Array (Option Value)} {cd5TokenError : Str} {cd6TokenError : Tok} (code_TokenError : K.lookup cdaTokenError = some ⟨cd1TokenError, cd2TokenError, .fields cd3TokenError, cd4TokenError⟩) (v2_TokenError : cd3TokenError[2]? = some (.str cd5TokenError cd6TokenError)) (file_TokenError : ((l.prog.main.file : Str) == cd5TokenError) = true)
    (tx_TokenError : ErrSt (clsSt (topS 2) 0) "place" "place") (sa_TokenError : PySem.W.findIn K (.ref CTokenError) "__setattr__" = some (some (.builtin "object.__setattr__"))) (no_TokenError : PySem.W.findIn K (.ref CTokenError) "place" = some none) (tC_TokenError : PySem.W.typeIn K (.ref fITokenError) = some (.type "function"))
    (kC_TokenError : PySem.W.keepIn K (.ref CTokenError) = true) (ex_TokenError : PySem.W.subIn K (.ref CTokenError) (.type "BaseException") = some true) (ve_TokenError : PySem.W.subIn K (.ref CTokenError) (.type "ValueError") = some true) (ty_TokenError : PySem.W.typeIn K (.ref CTokenError) = some (.type "type"))
    (su_TokenError : PySem.W.ks_superIn K CTokenError CTokenError "__init__" = some (some (.builtin "ValueError.__init__"))) (mc_TokenError : PySem.W.mroIn K CTokenError (.ref CTokenError) = some true) (ic_TokenError : PySem.W.isClsIn K CTokenError = true)
    (hg_TokenError : PySem.W.findIn K (.ref CTokenError) "__getattribute__" = some (some (.builtin "BaseException.__getattribute__"))) (hk_TokenError : PySem.W.findIn K (.ref CTokenError) "__getattr__" = some none) (hd_TokenError : PySem.W.hasDictIn K CTokenError = true) (ha_TokenError : PySem.W.findIn K (.ref CTokenError) "__class__" = some (some (.builtin "object.__class__"))) (hm_TokenError : PySem.W.mroIn K CTokenError (.type "object") = some true)
    (q_EndError : PySem.W.excIn K CEndError [.type "ValueError", .type "Exception", .type "BaseException", .type "object"] "ValueError.__new__" = true) (kC_EndError : PySem.W.keepIn K (.ref CEndError) = true) (ex_EndError : PySem.W.subIn K (.ref CEndError) (.type "BaseException") = some true) (ty_EndError : PySem.W.typeIn K (.ref CEndError) = some (.type "type"))
    (hg_EndError : PySem.W.findIn K (.ref CEndError) "__getattribute__" = some (some (.builtin "BaseException.__getattribute__"))) (hk_EndError : PySem.W.findIn K (.ref CEndError) "__getattr__" = some none) (hd_EndError : PySem.W.hasDictIn K CEndError = true) (ha_EndError : PySem.W.findIn K (.ref CEndError) "__class__" = some (some (.builtin "object.__class__"))) (hm_EndError : PySem.W.mroIn K CEndError (.type "object") = some true)
    (thp : PySem.W.nsIn K cStatics "thirdparty.any" = some none) (tops : (l.prog.main.scope.names.lookup ("super" : Str)).isSome = false) (hn : PySem.W.specialIn K (.builtin "object.__class__") "__get__" = some (some (.builtin "getset_descriptor.__get__"))) (ht : PySem.W.takesIn K (.builtin "object.__class__") = some true)
    (xb_EndError : PySem.W.subIn K (.ref CEndError) (.type "BaseException") = some true) (xt_EndError : PySem.W.typeIn K (.ref CEndError) = some (.type "type")) (xd_EndError : PySem.W.hasDictIn K CEndError = true)
    (xs_EndError_TokenError : PySem.W.subIn K (.ref CTokenError) (.ref CEndError) = some false) (xk_EndError_TokenError : PySem.W.kitOne K (.ref CTokenError) (.ref CEndError) = some false)
    (xs_EndError_EndError : PySem.W.subIn K (.ref CEndError) (.ref CEndError) = some true) (xk_EndError_EndError : PySem.W.kitOne K (.ref CEndError) (.ref CEndError) = some true)
    (xb_MessagewaysError : PySem.W.subIn K (.ref CMessagewaysError) (.type "BaseException") = some true) (xt_MessagewaysError : PySem.W.typeIn K (.ref CMessagewaysError) = some (.type "type")) (xd_MessagewaysError : PySem.W.hasDictIn K CMessagewaysError = true)
    (xs_MessagewaysError_TokenError : PySem.W.subIn K (.ref CTokenError) (.ref CMessagewaysError) = some true) (xk_MessagewaysError_TokenError : PySem.W.kitOne K (.ref CTokenError) (.ref CMessagewaysError) = some true)
    (xs_MessagewaysError_EndError : PySem.W.subIn K (.ref CEndError) (.ref CMessagewaysError) = some true) (xk_MessagewaysError_EndError : PySem.W.kitOne K (.ref CEndError) (.ref CMessagewaysError) = some true)
    (xb_TokenError : PySem.W.subIn K (.ref CTokenError) (.type "BaseException") = some true) (xt_TokenError : PySem.W.typeIn K (.ref CTokenError) = some (.type "type")) (xd_TokenError : PySem.W.hasDictIn K CTokenError = true)
    (xs_TokenError_TokenError : PySem.W.subIn K (.ref CTokenError) (.ref CTokenError) = some true) (xk_TokenError_TokenError : PySem.W.kitOne K (.ref CTokenError) (.ref CTokenError) = some true)
    (xs_TokenError_EndError : PySem.W.subIn K (.ref CEndError) (.ref CTokenError) = some false) (xk_TokenError_EndError : PySem.W.kitOne K (.ref CEndError) (.ref CTokenError) = some false)
    (z_int : PySem.W.nsIn K mainGlobals "int" = some none)
    (z_isinstance : PySem.W.nsIn K mainGlobals "isinstance" = some none)
    (z_len : PySem.W.nsIn K mainGlobals "len" = some none)
    (z_range : PySem.W.nsIn K mainGlobals "range" = some none)
    (z_str : PySem.W.nsIn K mainGlobals "str" = some none)
    (z_super : PySem.W.nsIn K mainGlobals "super" = some none)
    {t_TEXT : Tok} (q_TEXT : PySem.W.nsIn K mainGlobals "TEXT" = some (some (.str "text" t_TEXT)))
    {t_SHOW : Tok} (q_SHOW : PySem.W.nsIn K mainGlobals "SHOW" = some (some (.str "show" t_SHOW)))
    {t_NUMBER : Tok} (q_NUMBER : PySem.W.nsIn K mainGlobals "NUMBER" = some (some (.str "number" t_NUMBER)))
    {t_SELECT : Tok} (q_SELECT : PySem.W.nsIn K mainGlobals "SELECT" = some (some (.str "select" t_SELECT)))
    {t_PLURAL : Tok} (q_PLURAL : PySem.W.nsIn K mainGlobals "PLURAL" = some (some (.str "plural" t_PLURAL)))
    {t_OTHER : Tok} (q_OTHER : PySem.W.nsIn K mainGlobals "OTHER" = some (some (.str "other" t_OTHER)))
    {a_CATEGORIES : Addr} {t0_CATEGORIES t1_CATEGORIES t2_CATEGORIES t3_CATEGORIES t4_CATEGORIES : Tok} {dd_CATEGORIES : Option Addr} {n_CATEGORIES : Nat} {sl_CATEGORIES : Array (Option Value)} (q_CATEGORIES : PySem.W.nsIn K mainGlobals "CATEGORIES" = some (some (.ref a_CATEGORIES))) (r_CATEGORIES : K.lookup a_CATEGORIES = some ⟨.type "tuple", dd_CATEGORIES, .seq #[.str "zero" t0_CATEGORIES, .str "one" t1_CATEGORIES, .str "two" t2_CATEGORIES, .str "few" t3_CATEGORIES, .str "many" t4_CATEGORIES] n_CATEGORIES, sl_CATEGORIES⟩)
    {a_CHOICES : Addr} {t0_CHOICES t1_CHOICES : Tok} {dd_CHOICES : Option Addr} {n_CHOICES : Nat} {sl_CHOICES : Array (Option Value)} (q_CHOICES : PySem.W.nsIn K mainGlobals "CHOICES" = some (some (.ref a_CHOICES))) (r_CHOICES : K.lookup a_CHOICES = some ⟨.type "tuple", dd_CHOICES, .seq #[.str "select" t0_CHOICES, .str "plural" t1_CHOICES] n_CHOICES, sl_CHOICES⟩)
    {t_LETTERS : Tok} (q_LETTERS : PySem.W.nsIn K mainGlobals "LETTERS" = some (some (.str "abcdefghijklmnopqrstuvwxyz" t_LETTERS)))
    {t_FIGURES : Tok} (q_FIGURES : PySem.W.nsIn K mainGlobals "FIGURES" = some (some (.str "0123456789" t_FIGURES)))
    {t_NAME_MOST : Tok} (q_NAME_MOST : PySem.W.nsIn K mainGlobals "NAME_MOST" = some (some (.int 8 t_NAME_MOST)))
    {t_OFFSET_MOST : Tok} (q_OFFSET_MOST : PySem.W.nsIn K mainGlobals "OFFSET_MOST" = some (some (.int 9 t_OFFSET_MOST)))
    {t_EXACT_MOST : Tok} (q_EXACT_MOST : PySem.W.nsIn K mainGlobals "EXACT_MOST" = some (some (.int 999 t_EXACT_MOST)))
    {t_QUOTE : Tok} (q_QUOTE : PySem.W.nsIn K mainGlobals "QUOTE" = some (some (.str "'" t_QUOTE)))
    {t_ESCAPED : Tok} (q_ESCAPED : PySem.W.nsIn K mainGlobals "ESCAPED" = some (some (.str "{}#'" t_ESCAPED)))
    {t_SPACES : Tok} (q_SPACES : PySem.W.nsIn K mainGlobals "SPACES" = some (some (.str " \n" t_SPACES)))
    {t_OFFSET : Tok} (q_OFFSET : PySem.W.nsIn K mainGlobals "OFFSET" = some (some (.str "offset:" t_OFFSET)))
    (hlaw : ∀ ns : List Int, ns.length ≤ 63 → ∃ S, run 60 1012 [.scr ns] [] = .ok (.bl true) S) :
    ∃ fd : FuncData, (∀ (s : Shared) (v : Value), BindsTo s fd ⟨[v], []⟩ [("_law_script", v)]) ∧ ∀ base : Heap, K.In base → base.Ns mainGlobals mg → FnG l.prog w K mg base 120 fa fd ["_law_script"] (DL.spLaw K) := by
  have e := hfa.symm.trans (PySem.W.mg_of X G a1012)
  cases e
  let A : Nat → Addr := fun i => match i with
    | 1 => f1
    | 2 => f2
    | 4 => f4
    | 5 => f5
    | 50 => f50
    | 55 => f55
    | 56 => f56
    | 57 => f57
    | 58 => f58
    | 59 => f59
    | 60 => f60
    | 61 => f61
    | 62 => f62
    | 63 => f63
    | 64 => f64
    | 65 => f65
    | 66 => f66
    | 67 => f67
    | 68 => f68
    | 69 => f69
    | 70 => f70
    | 1000 => f1000
    | 1001 => f1001
    | 1002 => f1002
    | 1003 => f1003
    | 1004 => f1004
    | 1005 => f1005
    | 1006 => f1006
    | 1007 => f1007
    | 1008 => f1008
    | 1009 => f1009
    | 1010 => f1010
    | 1011 => f1011
    | 1012 => fa
    | 2001 => fITokenError
    | 3001 => ccTokenError
    | 4001 => cdaTokenError
    | _ => 0
  let CL : Nat → Addr := fun i => if i = 3 then CMessagewaysError else if i = 4 then CTokenError else if i = 5 then CEndError else if i = 24 then CReader else 0
  have h0 : ∀ i, CL (i + 1000) = 0 := fun i => by
    show (fun i => if i = 3 then CMessagewaysError else if i = 4 then CTokenError else if i = 5 then CEndError else if i = 24 then CReader else 0) (i + 1000) = 0
    simp only []
    repeat rw [if_neg (by omega)]
  let FD : Nat → FuncData := fun i => match i with
    | 1 => (PySem.W.fnOf "cases_of" "cases_of" (defArgs s_1) (defBody s_1) (defScope s_1) .none kV1 dc1 pm1 an1 cd1 ct1)
    | 2 => (PySem.W.fnOf "other_of" "other_of" (defArgs s_2) (defBody s_2) (defScope s_2) .none kV2 dc2 pm2 an2 cd2 ct2)
    | 4 => (PySem.W.fnOf "plain_node" "plain_node" (defArgs s_4) (defBody s_4) (defScope s_4) .none kV4 dc4 pm4 an4 cd4 ct4)
    | 5 => (PySem.W.fnOf "plain" "plain" (defArgs s_5) (defBody s_5) (defScope s_5) .none kV5 dc5 pm5 an5 cd5 ct5)
    | 50 => (PySem.W.fnOf "format_text" "format_text" (defArgs s_50) (defBody s_50) (defScope s_50) .none kV50 dc50 pm50 an50 cd50 ct50)
    | 55 => (PySem.W.fnOf "is_sign" "is_sign" (defArgs s_55) (defBody s_55) (defScope s_55) .none kV55 dc55 pm55 an55 cd55 ct55)
    | 56 => (PySem.W.fnOf "__init__" "Reader.__init__" (defArgs s_56) (defBody s_56) (defScope s_56) .none kV56 dc56 pm56 an56 cd56 ct56)
    | 57 => (PySem.W.fnOf "sign" "Reader.sign" (defArgs s_57) (defBody s_57) (defScope s_57) .none kV57 dc57 pm57 an57 cd57 ct57)
    | 58 => (PySem.W.fnOf "skip" "Reader.skip" (defArgs s_58) (defBody s_58) (defScope s_58) .none kV58 dc58 pm58 an58 cd58 ct58)
    | 59 => (PySem.W.fnOf "expect" "Reader.expect" (defArgs s_59) (defBody s_59) (defScope s_59) .none kV59 dc59 pm59 an59 cd59 ct59)
    | 60 => (PySem.W.fnOf "run" "Reader.run" (defArgs s_60) (defBody s_60) (defScope s_60) .none kV60 dc60 pm60 an60 cd60 ct60)
    | 61 => (PySem.W.fnOf "word" "Reader.word" (defArgs s_61) (defBody s_61) (defScope s_61) .none kV61 dc61 pm61 an61 cd61 ct61)
    | 62 => (PySem.W.fnOf "natural" "Reader.natural" (defArgs s_62) (defBody s_62) (defScope s_62) .none kV62 dc62 pm62 an62 cd62 ct62)
    | 63 => (PySem.W.fnOf "offset" "Reader.offset" (defArgs s_63) (defBody s_63) (defScope s_63) .none kV63 dc63 pm63 an63 cd63 ct63)
    | 64 => (PySem.W.fnOf "key" "Reader.key" (defArgs s_64) (defBody s_64) (defScope s_64) .none kV64 dc64 pm64 an64 cd64 ct64)
    | 65 => (PySem.W.fnOf "choice" "Reader.choice" (defArgs s_65) (defBody s_65) (defScope s_65) .none kV65 dc65 pm65 an65 cd65 ct65)
    | 66 => (PySem.W.fnOf "braces" "Reader.braces" (defArgs s_66) (defBody s_66) (defScope s_66) .none kV66 dc66 pm66 an66 cd66 ct66)
    | 67 => (PySem.W.fnOf "escape" "Reader.escape" (defArgs s_67) (defBody s_67) (defScope s_67) .none kV67 dc67 pm67 an67 cd67 ct67)
    | 68 => (PySem.W.fnOf "node" "Reader.node" (defArgs s_68) (defBody s_68) (defScope s_68) .none kV68 dc68 pm68 an68 cd68 ct68)
    | 69 => (PySem.W.fnOf "message" "Reader.message" (defArgs s_69) (defBody s_69) (defScope s_69) .none kV69 dc69 pm69 an69 cd69 ct69)
    | 70 => (PySem.W.fnOf "parse_message" "parse_message" (defArgs s_70) (defBody s_70) (defScope s_70) .none kV70 dc70 pm70 an70 cd70 ct70)
    | 1000 => (PySem.W.fnOf "_law_cell" "_law_cell" (defArgs s_1000) (defBody s_1000) (defScope s_1000) .none kV1000 dc1000 pm1000 an1000 cd1000 ct1000)
    | 1001 => (PySem.W.fnOf "_law_digits" "_law_digits" (defArgs s_1001) (defBody s_1001) (defScope s_1001) .none kV1001 dc1001 pm1001 an1001 cd1001 ct1001)
    | 1002 => (PySem.W.fnOf "_law_draw" "_law_draw" (defArgs s_1002) (defBody s_1002) (defScope s_1002) .none kV1002 dc1002 pm1002 an1002 cd1002 ct1002)
    | 1003 => (PySem.W.fnOf "_law_string" "_law_string" (defArgs s_1003) (defBody s_1003) (defScope s_1003) .none kV1003 dc1003 pm1003 an1003 cd1003 ct1003)
    | 1004 => (PySem.W.fnOf "_law_select" "_law_select" (defArgs s_1004) (defBody s_1004) (defScope s_1004) .none kV1004 dc1004 pm1004 an1004 cd1004 ct1004)
    | 1005 => (PySem.W.fnOf "_law_plural" "_law_plural" (defArgs s_1005) (defBody s_1005) (defScope s_1005) .none kV1005 dc1005 pm1005 an1005 cd1005 ct1005)
    | 1006 => (PySem.W.fnOf "_law_message" "_law_message" (defArgs s_1006) (defBody s_1006) (defScope s_1006) .none kV1006 dc1006 pm1006 an1006 cd1006 ct1006)
    | 1007 => (PySem.W.fnOf "_law_escaped" "_law_escaped" (defArgs s_1007) (defBody s_1007) (defScope s_1007) .none kV1007 dc1007 pm1007 an1007 cd1007 ct1007)
    | 1008 => (PySem.W.fnOf "_law_gap" "_law_gap" (defArgs s_1008) (defBody s_1008) (defScope s_1008) .none kV1008 dc1008 pm1008 an1008 cd1008 ct1008)
    | 1009 => (PySem.W.fnOf "_law_one_gap" "_law_one_gap" (defArgs s_1009) (defBody s_1009) (defScope s_1009) .none kV1009 dc1009 pm1009 an1009 cd1009 ct1009)
    | 1010 => (PySem.W.fnOf "_law_written" "_law_written" (defArgs s_1010) (defBody s_1010) (defScope s_1010) .none kV1010 dc1010 pm1010 an1010 cd1010 ct1010)
    | 1011 => (PySem.W.fnOf "_law_open" "_law_open" (defArgs s_1011) (defBody s_1011) (defScope s_1011) .none kV1011 dc1011 pm1011 an1011 cd1011 ct1011)
    | 1012 => (PySem.W.fnOf "law" "law" (defArgs s_1012) (defBody s_1012) (defScope s_1012) .none kV1012 dc1012 pm1012 an1012 cd1012 ct1012)
    | _ => (PySem.W.fnOf "law" "law" (defArgs s_1012) (defBody s_1012) (defScope s_1012) .none kV1012 dc1012 pm1012 an1012 cd1012 ct1012)
  have T : Top l.prog K mg CL A FD := {
    m_MessagewaysError := PySem.W.mg_of X G a_MessagewaysError
    m_TokenError := PySem.W.mg_of X G a_TokenError
    m_EndError := PySem.W.mg_of X G a_EndError
    m_Reader := PySem.W.mg_of X G a_Reader
    cb_Reader := ⟨pg_Reader, hd_Reader, po_Reader, sa_Reader⟩
    mk_Reader := ⟨mk_Reader, a56, i56, kp_Reader⟩
    na_Reader_inside := na_Reader_inside
    na_Reader_place := na_Reader_place
    na_Reader_text := na_Reader_text
    e_TokenError := errBody tx_TokenError cl_TokenError rv_TokenError sa_TokenError no_TokenError iC_TokenError tC_TokenError kC_TokenError ex_TokenError ve_TokenError ty_TokenError su_TokenError mc_TokenError ic_TokenError cell_TokenError code_TokenError v2_TokenError file_TokenError thp tops fn_TokenError cod_TokenError bd_TokenError
    x_TokenError := ⟨hg_TokenError, hk_TokenError, ex_TokenError, hd_TokenError, ha_TokenError, hn, ht, hm_TokenError⟩
    n_TokenError := no_TokenError
    q_EndError := q_EndError
    kp_EndError := kC_EndError
    ex_EndError := ex_EndError
    ty_EndError := ty_EndError
    x_EndError := ⟨hg_EndError, hk_EndError, ex_EndError, hd_EndError, ha_EndError, hn, ht, hm_EndError⟩
    t_EndError_TokenError := PySem.W.exm_ref xb_EndError xd_EndError xt_EndError xs_EndError_TokenError
    k_EndError_TokenError := xk_EndError_TokenError
    t_EndError_EndError := PySem.W.exm_ref xb_EndError xd_EndError xt_EndError xs_EndError_EndError
    k_EndError_EndError := xk_EndError_EndError
    t_MessagewaysError_TokenError := PySem.W.exm_ref xb_MessagewaysError xd_MessagewaysError xt_MessagewaysError xs_MessagewaysError_TokenError
    k_MessagewaysError_TokenError := xk_MessagewaysError_TokenError
    t_MessagewaysError_EndError := PySem.W.exm_ref xb_MessagewaysError xd_MessagewaysError xt_MessagewaysError xs_MessagewaysError_EndError
    k_MessagewaysError_EndError := xk_MessagewaysError_EndError
    t_TokenError_TokenError := PySem.W.exm_ref xb_TokenError xd_TokenError xt_TokenError xs_TokenError_TokenError
    k_TokenError_TokenError := xk_TokenError_TokenError
    t_TokenError_EndError := PySem.W.exm_ref xb_TokenError xd_TokenError xt_TokenError xs_TokenError_EndError
    k_TokenError_EndError := xk_TokenError_EndError
    b_int := PySem.W.mg_none_of X G z_int
    b_isinstance := PySem.W.mg_none_of X G z_isinstance
    b_len := PySem.W.mg_none_of X G z_len
    b_range := PySem.W.mg_none_of X G z_range
    b_str := PySem.W.mg_none_of X G z_str
    b_super := PySem.W.mg_none_of X G z_super
    c_TEXT := ⟨_, PySem.W.mg_of X G q_TEXT⟩
    c_SHOW := ⟨_, PySem.W.mg_of X G q_SHOW⟩
    c_NUMBER := ⟨_, PySem.W.mg_of X G q_NUMBER⟩
    c_SELECT := ⟨_, PySem.W.mg_of X G q_SELECT⟩
    c_PLURAL := ⟨_, PySem.W.mg_of X G q_PLURAL⟩
    c_OTHER := ⟨_, PySem.W.mg_of X G q_OTHER⟩
    c_CATEGORIES := ⟨_, [.str "zero" t0_CATEGORIES, .str "one" t1_CATEGORIES, .str "two" t2_CATEGORIES, .str "few" t3_CATEGORIES, .str "many" t4_CATEGORIES], _, _, _, PySem.W.mg_of X G q_CATEGORIES, r_CATEGORIES, by repeat constructor, (by decide : 5 ≤ sizeLine)⟩
    c_CHOICES := ⟨_, [.str "select" t0_CHOICES, .str "plural" t1_CHOICES], _, _, _, PySem.W.mg_of X G q_CHOICES, r_CHOICES, by repeat constructor, (by decide : 2 ≤ sizeLine)⟩
    c_LETTERS := ⟨_, PySem.W.mg_of X G q_LETTERS⟩
    c_FIGURES := ⟨_, PySem.W.mg_of X G q_FIGURES⟩
    c_NAME_MOST := ⟨_, PySem.W.mg_of X G q_NAME_MOST⟩
    c_OFFSET_MOST := ⟨_, PySem.W.mg_of X G q_OFFSET_MOST⟩
    c_EXACT_MOST := ⟨_, PySem.W.mg_of X G q_EXACT_MOST⟩
    c_QUOTE := ⟨_, PySem.W.mg_of X G q_QUOTE⟩
    c_ESCAPED := ⟨_, PySem.W.mg_of X G q_ESCAPED⟩
    c_SPACES := ⟨_, PySem.W.mg_of X G q_SPACES⟩
    c_OFFSET := ⟨_, PySem.W.mg_of X G q_OFFSET⟩
    f_1 := fun_mk (st := s_1) l1 c1 k1
    g_1 := PySem.W.mg_of X G a1
    n_1 := (fun_mk (st := s_1) l1 c1 k1).binds fun _ _ _ _ _ _ us hl => match us, hl with | [_], _ => rfl
    f_2 := fun_mk (st := s_2) l2 c2 k2
    g_2 := PySem.W.mg_of X G a2
    n_2 := (fun_mk (st := s_2) l2 c2 k2).binds fun _ _ _ _ _ _ us hl => match us, hl with | [_], _ => rfl
    f_4 := fun_mk (st := s_4) l4 c4 k4
    g_4 := PySem.W.mg_of X G a4
    n_4 := (fun_mk (st := s_4) l4 c4 k4).binds fun _ _ _ _ _ _ us hl => match us, hl with | [_], _ => rfl
    f_5 := fun_mk (st := s_5) l5 c5 k5
    g_5 := PySem.W.mg_of X G a5
    n_5 := (fun_mk (st := s_5) l5 c5 k5).binds fun _ _ _ _ _ _ us hl => match us, hl with | [_], _ => rfl
    f_50 := fun_mk (st := s_50) l50 c50 k50
    g_50 := PySem.W.mg_of X G a50
    n_50 := (fun_mk (st := s_50) l50 c50 k50).binds fun _ _ _ _ _ _ us hl => match us, hl with | [_], _ => rfl
    f_55 := fun_mk (st := s_55) l55 c55 k55
    g_55 := PySem.W.mg_of X G a55
    n_55 := (fun_mk (st := s_55) l55 c55 k55).binds fun _ _ _ _ _ _ us hl => match us, hl with | [_], _ => rfl
    f_56 := fun_mk (st := s_56) l56 c56 k56
    n_56 := (fun_mk (st := s_56) l56 c56 k56).binds fun _ _ _ _ _ _ us hl => match us, hl with | [_, _], _ => rfl
    f_57 := fun_mk (st := s_57) l57 c57 k57
    g_57 := ⟨a57, i57, k57⟩
    n_57 := (fun_mk (st := s_57) l57 c57 k57).binds fun _ _ _ _ _ _ us hl => match us, hl with | [_], _ => rfl
    f_58 := fun_mk (st := s_58) l58 c58 k58
    g_58 := ⟨a58, i58, k58⟩
    n_58 := (fun_mk (st := s_58) l58 c58 k58).binds fun _ _ _ _ _ _ us hl => match us, hl with | [_], _ => rfl
    f_59 := fun_mk (st := s_59) l59 c59 k59
    g_59 := ⟨a59, i59, k59⟩
    n_59 := (fun_mk (st := s_59) l59 c59 k59).binds fun _ _ _ _ _ _ us hl => match us, hl with | [_, _], _ => rfl
    f_60 := fun_mk (st := s_60) l60 c60 k60
    g_60 := ⟨a60, i60, k60⟩
    n_60 := (fun_mk (st := s_60) l60 c60 k60).binds fun _ _ _ _ _ _ us hl => match us, hl with | [_, _], _ => rfl
    f_61 := fun_mk (st := s_61) l61 c61 k61
    g_61 := ⟨a61, i61, k61⟩
    n_61 := (fun_mk (st := s_61) l61 c61 k61).binds fun _ _ _ _ _ _ us hl => match us, hl with | [_], _ => rfl
    f_62 := fun_mk (st := s_62) l62 c62 k62
    g_62 := ⟨a62, i62, k62⟩
    n_62 := (fun_mk (st := s_62) l62 c62 k62).binds fun _ _ _ _ _ _ us hl => match us, hl with | [_, _], _ => rfl
    f_63 := fun_mk (st := s_63) l63 c63 k63
    g_63 := ⟨a63, i63, k63⟩
    n_63 := (fun_mk (st := s_63) l63 c63 k63).binds fun _ _ _ _ _ _ us hl => match us, hl with | [_], _ => rfl
    f_64 := fun_mk (st := s_64) l64 c64 k64
    g_64 := ⟨a64, i64, k64⟩
    n_64 := (fun_mk (st := s_64) l64 c64 k64).binds fun _ _ _ _ _ _ us hl => match us, hl with | [_, _], _ => rfl
    f_65 := fun_mk (st := s_65) l65 c65 k65
    g_65 := ⟨a65, i65, k65⟩
    n_65 := (fun_mk (st := s_65) l65 c65 k65).binds fun _ _ _ _ _ _ us hl => match us, hl with | [_, _, _], _ => rfl
    f_66 := fun_mk (st := s_66) l66 c66 k66
    g_66 := ⟨a66, i66, k66⟩
    n_66 := (fun_mk (st := s_66) l66 c66 k66).binds fun _ _ _ _ _ _ us hl => match us, hl with | [_], _ => rfl
    f_67 := fun_mk (st := s_67) l67 c67 k67
    g_67 := ⟨a67, i67, k67⟩
    n_67 := (fun_mk (st := s_67) l67 c67 k67).binds fun _ _ _ _ _ _ us hl => match us, hl with | [_], _ => rfl
    f_68 := fun_mk (st := s_68) l68 c68 k68
    g_68 := ⟨a68, i68, k68⟩
    n_68 := (fun_mk (st := s_68) l68 c68 k68).binds fun _ _ _ _ _ _ us hl => match us, hl with | [_], _ => rfl
    f_69 := fun_mk (st := s_69) l69 c69 k69
    g_69 := ⟨a69, i69, k69⟩
    n_69 := (fun_mk (st := s_69) l69 c69 k69).binds fun _ _ _ _ _ _ us hl => match us, hl with | [_, _], _ => rfl
    f_70 := fun_mk (st := s_70) l70 c70 k70
    g_70 := PySem.W.mg_of X G a70
    n_70 := (fun_mk (st := s_70) l70 c70 k70).binds fun _ _ _ _ _ _ us hl => match us, hl with | [_], _ => rfl
    f_1000 := fun_mk (st := s_1000) l1000 c1000 k1000
    g_1000 := PySem.W.mg_of X G a1000
    n_1000 := (fun_mk (st := s_1000) l1000 c1000 k1000).binds fun _ _ _ _ _ _ us hl => match us, hl with | [_, _], _ => rfl
    f_1001 := fun_mk (st := s_1001) l1001 c1001 k1001
    g_1001 := PySem.W.mg_of X G a1001
    n_1001 := (fun_mk (st := s_1001) l1001 c1001 k1001).binds fun _ _ _ _ _ _ us hl => match us, hl with | [_, _, _], _ => rfl
    f_1002 := fun_mk (st := s_1002) l1002 c1002 k1002
    g_1002 := PySem.W.mg_of X G a1002
    n_1002 := (fun_mk (st := s_1002) l1002 c1002 k1002).binds fun _ _ _ _ _ _ us hl => match us, hl with | [_, _], _ => rfl
    f_1003 := fun_mk (st := s_1003) l1003 c1003 k1003
    g_1003 := PySem.W.mg_of X G a1003
    n_1003 := (fun_mk (st := s_1003) l1003 c1003 k1003).binds fun _ _ _ _ _ _ us hl => match us, hl with | [_], _ => rfl
    f_1004 := fun_mk (st := s_1004) l1004 c1004 k1004
    g_1004 := PySem.W.mg_of X G a1004
    n_1004 := (fun_mk (st := s_1004) l1004 c1004 k1004).binds fun _ _ _ _ _ _ us hl => match us, hl with | [_, _, _], _ => rfl
    f_1005 := fun_mk (st := s_1005) l1005 c1005 k1005
    g_1005 := PySem.W.mg_of X G a1005
    n_1005 := (fun_mk (st := s_1005) l1005 c1005 k1005).binds fun _ _ _ _ _ _ us hl => match us, hl with | [_, _], _ => rfl
    f_1006 := fun_mk (st := s_1006) l1006 c1006 k1006
    g_1006 := PySem.W.mg_of X G a1006
    n_1006 := (fun_mk (st := s_1006) l1006 c1006 k1006).binds fun _ _ _ _ _ _ us hl => match us, hl with | [_, _, _], _ => rfl
    f_1007 := fun_mk (st := s_1007) l1007 c1007 k1007
    g_1007 := PySem.W.mg_of X G a1007
    n_1007 := (fun_mk (st := s_1007) l1007 c1007 k1007).binds fun _ _ _ _ _ _ us hl => match us, hl with | [_], _ => rfl
    f_1008 := fun_mk (st := s_1008) l1008 c1008 k1008
    g_1008 := PySem.W.mg_of X G a1008
    n_1008 := (fun_mk (st := s_1008) l1008 c1008 k1008).binds fun _ _ _ _ _ _ us hl => match us, hl with | [_, _], _ => rfl
    f_1009 := fun_mk (st := s_1009) l1009 c1009 k1009
    g_1009 := PySem.W.mg_of X G a1009
    n_1009 := (fun_mk (st := s_1009) l1009 c1009 k1009).binds fun _ _ _ _ _ _ us hl => match us, hl with | [_, _], _ => rfl
    f_1010 := fun_mk (st := s_1010) l1010 c1010 k1010
    g_1010 := PySem.W.mg_of X G a1010
    n_1010 := (fun_mk (st := s_1010) l1010 c1010 k1010).binds fun _ _ _ _ _ _ us hl => match us, hl with | [_, _, _], _ => rfl
    f_1011 := fun_mk (st := s_1011) l1011 c1011 k1011
    g_1011 := PySem.W.mg_of X G a1011
    n_1011 := (fun_mk (st := s_1011) l1011 c1011 k1011).binds fun _ _ _ _ _ _ us hl => match us, hl with | [_], _ => rfl
    f_1012 := fun_mk (st := s_1012) l1012 c1012 k1012
    g_1012 := PySem.W.mg_of X G a1012
    n_1012 := (fun_mk (st := s_1012) l1012 c1012 k1012).binds fun _ _ _ _ _ _ us hl => match us, hl with | [_], _ => rfl }
  refine ⟨(PySem.W.fnOf "law" "law" (defArgs s_1012) (defBody s_1012) (defScope s_1012) .none kV1012 dc1012 pm1012 an1012 cd1012 ct1012), fun s v => .of_eq rfl, fun base _ _ => ?_⟩
  exact lawG_imp (cls := CL) ((all (P := l.prog) (w := w) (base := base) (cls := CL) T 60).k_1012) h0 hlaw
end
section
open PySem L2 DL
/-! ### the law's draws -/
theorem run_cell (n : Nat) (ns : List Int) (k : Nat) (S : List D) : run (n + 1) 1000 [.scr ns, .int k] S = .ok (.int (ns.getD k 0)) S := by
  rw [run_1000]
  by_cases h : k < ns.length
  · have h2 : atI ns (k : Int) = some (ns[k]) := by rw [atI_get?, List.getElem?_eq_getElem h]
    simp [B_1000, h, h2]
  · simp [B_1000, h]
theorem digits_loop1 (n : Nat) (a0 a1 a2 : Sl) (kk : Sl) (b : Sl) : ∀ (xs : List D) (ds : List D) (c : Int), ds.length + xs.length ≤ 1000000 → (∀ d ∈ ds, ∃ i : Int, d = .int i) → 0 ≤ c →
    ∃ es c', forD (.nm 6) [6] (L_1001_1 (run n)) xs [a0, a1, a2, .own (.lst ds), kk, .val (.int c), .non, b] [] = .next [a0, a1, a2, .own (.lst es), kk, .val (.int c'), .non, b] [] ∧ es.length ≤ ds.length + xs.length ∧ (∀ d ∈ es, ∃ i : Int, d = .int i)
  | [], ds, c, h, hd, hc => ⟨ds, c, rfl, Nat.le_refl _, hd⟩
  | x :: xs, ds, c, h, hd, hc => by
    rw [List.length_cons] at h
    have hsz : ds.length < sizeLine := by rw [sizeLine_eq]; omega
    rw [forD]
    by_cases hp : 0 < c
    · obtain ⟨es, c', h1, h2, h3⟩ := digits_loop1 n a0 a1 a2 kk b xs (ds ++ [.int (c % 1000)]) (c / 1000) (by rw [List.length_append, List.length_singleton]; omega) (fun d hm => by
        rcases List.mem_append.mp hm with z | z
        · exact hd d z
        · rw [List.mem_singleton] at z; exact ⟨_, z⟩) (Int.ediv_nonneg hc (by decide))
      refine ⟨es, c', ?_, ?_, h3⟩
      · simp [e_L_1001_1, hp, hsz]
        exact h1
      · rw [List.length_append, List.length_singleton] at h2
        rw [List.length_cons]; omega
    · obtain ⟨es, c', h1, h2, h3⟩ := digits_loop1 n a0 a1 a2 kk b xs ds c (by omega) hd hc
      refine ⟨es, c', ?_, by rw [List.length_cons]; omega, h3⟩
      simp [e_L_1001_1, hp]
      exact h1
theorem digits_loop2 (n : Nat) (a0 a1 a2 : Sl) (kk : Sl) (b : Sl) : ∀ (m : Nat) (lo : Int) (ds : List D) (c : Int), ds.length + m ≤ 1000000 → (∀ d ∈ ds, ∃ i : Int, d = .int i) →
    ∃ es c', forD (.nm 6) [6] (L_1001_2 (run n)) ((List.range' 0 m).map fun (k : Nat) => D.int (lo + k)) [a0, a1, a2, .own (.lst ds), kk, b, .non, .val (.int c)] [] = .next [a0, a1, a2, .own (.lst es), kk, b, .non, .val (.int c')] [] ∧ es.length ≤ ds.length + m ∧ (∀ d ∈ es, ∃ i : Int, d = .int i)
  | 0, lo, ds, c, h, hd => ⟨ds, c, rfl, Nat.le_refl _, hd⟩
  | m + 1, lo, ds, c, h, hd => by
    have hsz : ds.length < sizeLine := by rw [sizeLine_eq]; omega
    obtain ⟨es, c', h1, h2, h3⟩ := digits_loop2 n a0 a1 a2 kk b m (lo + 1) (ds ++ [.int ((((c * 16807 + 7 * lo) + 1) % 2147483647) / 997 % 1000)]) (((c * 16807 + 7 * lo) + 1) % 2147483647) (by rw [List.length_append, List.length_singleton]; omega) (fun d hm => by
        rcases List.mem_append.mp hm with z | z
        · exact hd d z
        · rw [List.mem_singleton] at z; exact ⟨_, z⟩)
    have e : ((List.range' 0 (m + 1)).map fun (k : Nat) => D.int (lo + k)) = .int lo :: ((List.range' 0 m).map fun (k : Nat) => D.int (lo + 1 + k)) := by
      rw [List.range'_succ, List.map_cons]
      have z : List.range' (0 + 1) m = (List.range' 0 m).map (fun x => 1 + x) := by rw [List.map_add_range']
      rw [z, List.map_map]
      simp
      intro a _
      omega
    refine ⟨es, c', ?_, ?_, h3⟩
    · rw [e, forD]
      have k1 : dMul (.int c) (.int 16807) = some (.int (c * 16807)) := dMul_int (by decide)
      have k2 : dMul (.int 7) (.int lo) = some (.int (7 * lo)) := dMul_intl (by decide)
      simp [e_L_1001_2, hsz, k1, k2]
      exact h1
    · rw [List.length_append, List.length_singleton] at h2; omega
theorem rangeD_range' (lo : Int) (n : Nat) : rangeD lo n = (List.range' 0 n).map fun (k : Nat) => D.int (lo + k) := by
  unfold rangeD; rw [List.range_eq_range']
theorem digits_loop3 (n : Nat) (ns : List Int) (m : Nat) : ∀ (k0 : Nat) (ds : List D), ds.length + 60 * m ≤ 1000000 → k0 + m ≤ 63 → (∀ d ∈ ds, ∃ i : Int, d = .int i) →
    ∃ es, forD (.nm 4) [4, 5, 6, 7] (L_1001_3 (run (n + 1))) ((List.range' k0 m).map fun (k : Nat) => D.int k) [.val (.scr ns), .val (.int 0), .val (.int 63), .own (.lst ds), .non, .non, .non, .non] [] = .next [.val (.scr ns), .val (.int 0), .val (.int 63), .own (.lst es), .non, .non, .non, .non] [] ∧ es.length ≤ ds.length + 60 * m ∧ (∀ d ∈ es, ∃ i : Int, d = .int i) := by
  induction m with
  | zero => exact fun k0 ds h hk hd => ⟨ds, rfl, Nat.le_refl _, hd⟩
  | succ m ih =>
    intro k0 ds h hk hd
    rw [List.range'_succ, List.map_cons, forD]
    have hcell : run (n + 1) 1000 [.scr ns, .int (k0 : Int)] [] = .ok (.int (ns.getD k0 0)) [] := run_cell n ns k0 []
    generalize hc : ns.getD k0 0 = c0 at hcell
    -- the cell without its sign
    obtain ⟨c, hcv, hpos⟩ : ∃ c : Int, (if c0 < 0 then 1 - 2 * c0 else c0) = c ∧ 0 ≤ c := ⟨_, rfl, by split <;> omega⟩
    have k1 : dMul (.int 2) (.int c0) = some (.int (2 * c0)) := dMul_intl (by decide)
    have hr : ∀ (x : List D) (es : List D), (∀ d ∈ es, ∃ i : Int, d = .int i) → es.length ≤ ds.length + 60 → ∃ fs, forD (.nm 4) [4, 5, 6, 7] (L_1001_3 (run (n + 1))) ((List.range' (k0 + 1) m).map fun (k : Nat) => D.int k) [.val (.scr ns), .val (.int 0), .val (.int 63), .own (.lst es), .non, .non, .non, .non] [] = .next [.val (.scr ns), .val (.int 0), .val (.int 63), .own (.lst fs), .non, .non, .non, .non] [] ∧ fs.length ≤ ds.length + 60 * (m + 1) ∧ (∀ d ∈ fs, ∃ i : Int, d = .int i) := fun _ es h1 h2 => by
      obtain ⟨fs, e, l, q⟩ := ih (k0 + 1) es (by omega) (by omega) h1
      exact ⟨fs, e, by omega, q⟩
    by_cases hb' : P18 ≤ c
    · obtain ⟨es, c', h1, h2, h3⟩ := digits_loop1 (n + 1) (.val (.scr ns)) (.val (.int 0)) (.val (.int 63)) (.val (.int (k0 : Int))) .non (rangeD 0 60) ds c (by rw [rangeD_len]; omega) hd hpos
      rw [rangeD_len] at h2
      obtain ⟨fs, e, l, q⟩ := hr [] es h3 h2
      refine ⟨fs, ?_, l, q⟩
      have i60 : inR 60 = true := by decide
      by_cases hn : c0 < 0
      · rw [if_pos hn] at hcv
        subst hcv
        simp [e_L_1001_3, hcell, hn, k1, hb', i60, h1, e]
      · rw [if_neg hn] at hcv
        subst hcv
        simp [e_L_1001_3, hcell, hn, k1, hb', i60, h1, e]
    · obtain ⟨es, c', h1, h2, h3⟩ := digits_loop2 (n + 1) (.val (.scr ns)) (.val (.int 0)) (.val (.int 63)) (.val (.int (k0 : Int))) (.val (.int c)) 12 0 ds ((c * 48271 + (k0 : Int) * 69621 + 11) % 2147483647) (by omega) hd
      rw [← rangeD_range'] at h1
      obtain ⟨fs, e, l, q⟩ := hr [] es h3 (by omega)
      refine ⟨fs, ?_, l, q⟩
      have i12 : inR 12 = true := by decide
      have k2 : dMul (.int c) (.int 48271) = some (.int (c * 48271)) := dMul_int (by decide)
      have k3 : dMul (.int (k0 : Int)) (.int 69621) = some (.int ((k0 : Int) * 69621)) := dMul_int (by decide)
      by_cases hn : c0 < 0
      · rw [if_pos hn] at hcv
        subst hcv
        simp [e_L_1001_3, hcell, hn, k1, hb', i12, k2, k3, h1, e]
      · rw [if_neg hn] at hcv
        subst hcv
        simp [e_L_1001_3, hcell, hn, k1, hb', i12, k2, k3, h1, e]
/-- the digits: some ints -/
theorem run_digits (n : Nat) (ns : List Int) : ∃ ds : List Int, run (n + 2) 1001 [.scr ns, .int 0, .int 63] [] = .ok (.lst (ds.map .int)) [] ∧ ds.length ≤ 3780 := by
  obtain ⟨es, h1, h2, h3⟩ := digits_loop3 n ns 63 0 [] (by decide) (by decide) (fun d h => by cases h)
  have e : ∀ es : List D, (∀ d ∈ es, ∃ i : Int, d = .int i) → ∃ ds : List Int, es = ds.map .int := by
    intro es
    induction es with
    | nil => exact fun _ => ⟨[], rfl⟩
    | cons x xs ih =>
      intro h
      obtain ⟨i, rfl⟩ := h x List.mem_cons_self
      obtain ⟨ds, rfl⟩ := ih fun d hd => h d (List.mem_cons_of_mem _ hd)
      exact ⟨i :: ds, rfl⟩
  obtain ⟨ds, rfl⟩ := e es h3
  refine ⟨ds, ?_, by simpa using h2⟩
  rw [run_1001]
  have i0 : inR 0 = true := by decide
  have i63 : inR 63 = true := by decide
  have hr : rangeD 0 63 = (List.range' 0 63).map fun (k : Nat) => D.int k := by unfold rangeD; rw [List.range_eq_range']; simp
  simp [B_1001, i0, i63, hr] at h1 ⊢
  simp [h1]
/-! ### the box -/
def box (ds : List Int) (k : Nat) : D := .lst [.lst (ds.map .int), .int k]
def Bx (S : List D) : Prop := ∃ ds k r, S = box ds k :: r
theorem run_draw (n : Nat) (m : Int) (hm : 0 < m) (S : List D) (hS : Bx S) : ∃ (r : Int) (S' : List D), run (n + 1) 1002 [.ptr 0, .int m] S = .ok (.int r) S' ∧ Bx S' ∧ 0 ≤ r ∧ r < m := by
  obtain ⟨ds, k, rr, rfl⟩ := hS
  rw [run_1002]
  have a1 : ∀ (x y : D), atI [x, y] 1 = some y := fun x y => rfl
  have a0 : ∀ (x y : D), atI [x, y] 0 = some x := fun x y => rfl
  have x2 : ixN 2 1 = some 1 := rfl
  have hk : (k : Int) + 1 = ((k + 1 : Nat) : Int) := by omega
  by_cases h : k < ds.length
  · have g : atI (ds.map D.int) (k : Int) = some (.int ds[k]) := by rw [atI_get?, List.getElem?_map, List.getElem?_eq_getElem h]; rfl
    refine ⟨ds[k] % m, box ds (k + 1) :: rr, ?_, ⟨ds, k + 1, rr, rfl⟩, Int.emod_nonneg _ (by omega), Int.emod_lt_of_pos _ hm⟩
    simp [B_1002, box, a1, a0, x2, h, g, hm]
  · refine ⟨0, box ds (k + 1) :: rr, ?_, ⟨ds, k + 1, rr, rfl⟩, Int.le_refl _, hm⟩
    simp [B_1002, box, a1, a0, x2, h]
theorem Bx.mk (ds : List Int) : Bx [.lst [.lst (ds.map .int), .int 0]] := ⟨ds, 0, [], rfl⟩
theorem Bx.app {S R : List D} (h : Bx S) : Bx (S ++ R) := by
  obtain ⟨ds, k, r, rfl⟩ := h
  exact ⟨ds, k, r ++ R, rfl⟩

end
section
open PySem L2 DL
/-! ### messages: what the small defs answer -/
def tag : Nd → Str
  | .text _ => "text"
  | .shw _ => "show"
  | .num => "number"
  | .sel _ _ _ => "select"
  | .plu _ _ _ _ => "plural"
theorem at1_0 (a : D) : atI [a] 0 = some a := rfl
theorem at2_0 (a b : D) : atI [a, b] 0 = some a := rfl
theorem at2_1 (a b : D) : atI [a, b] 1 = some b := rfl
theorem at4_0 (a b c d : D) : atI [a, b, c, d] 0 = some a := rfl
theorem at5_0 (a b c d e : D) : atI [a, b, c, d, e] 0 = some a := rfl
theorem at4_m1 (a b c d : D) : atI [a, b, c, d] (-1) = some d := rfl
theorem at5_m1 (a b c d e : D) : atI [a, b, c, d, e] (-1) = some e := rfl
theorem at4_m2 (a b c d : D) : atI [a, b, c, d] (-2) = some c := rfl
theorem at5_m2 (a b c d e : D) : atI [a, b, c, d, e] (-2) = some d := rfl
@[simp] theorem tag0 (n : Nd) : dIdx (eN n) (.int 0) = some (.str (tag n)) := by cases n <;> rw [eN] <;> rfl
@[simp] theorem text1 (x : Str) : dIdx (eN (.text x)) (.int 1) = some (.str x) := by rw [eN]; rfl
@[simp] theorem ref_eN (n : Nd) (S : List D) : deref S (eN n) = eN n := by cases n <;> rw [eN] <;> rfl
theorem s_tt : (("text" : Str) == "text") = true := by decide +kernel
theorem s_st : (("show" : Str) == "text") = false := by decide +kernel
theorem s_nt : (("number" : Str) == "text") = false := by decide +kernel
theorem s_lt : (("select" : Str) == "text") = false := by decide +kernel
theorem s_pt : (("plural" : Str) == "text") = false := by decide +kernel
theorem tag_text (n : Nd) : (tag n == ("text" : Str)) = isT n := by cases n <;> first | exact s_tt | exact s_st | exact s_nt | exact s_lt | exact s_pt
def isC : Nd → Bool
  | .sel _ _ _ => true
  | .plu _ _ _ _ => true
  | _ => false
theorem in_t : inF (.str "text") [.str "select", .str "plural"] = false := by decide +kernel
theorem in_s : inF (.str "show") [.str "select", .str "plural"] = false := by decide +kernel
theorem in_n : inF (.str "number") [.str "select", .str "plural"] = false := by decide +kernel
theorem in_l : inF (.str "select") [.str "select", .str "plural"] = true := by decide +kernel
theorem in_p : inF (.str "plural") [.str "select", .str "plural"] = true := by decide +kernel
theorem tag_dIn (n : Nd) : dIn (.str (tag n)) (.tup [.str "select", .str "plural"]) = some (isC n) := by
  have h : inF (.str (tag n)) [.str "select", .str "plural"] = isC n := by cases n <;> first | exact in_t | exact in_s | exact in_n | exact in_l | exact in_p
  rw [← h]
  show (if flatD (.str (tag n)) = true ∧ [D.str "select", .str "plural"].all flatD = true then some (inF (.str (tag n)) [.str "select", .str "plural"]) else none) = _
  exact if_pos ⟨rfl, rfl⟩
theorem tag_in (n : Nd) : cIn (.str (tag n)) (.tup [.str "select", .str "plural"]) = some (.bl (isC n)) := by
  unfold cIn; rw [tag_dIn]; rfl
theorem tag_notIn (n : Nd) : cNotIn (.str (tag n)) (.tup [.str "select", .str "plural"]) = some (.bl (!isC n)) := by
  unfold cNotIn; rw [tag_dIn]; rfl
theorem empty_ok : PyData.canLay0 (.str "") = true := by decide +kernel
def isE : Nd → Bool
  | .text x => x == ""
  | _ => false
theorem ne_empty (n : Nd) (h : nOk n = true) (hh : nH n ≤ 10) : cNe (eN n) (.tup [.str "text", .str ""]) = some (.bl (!isE n)) := by
  have e : (.tup [.str "text", .str ""] : D) = eN (.text "") := by rw [eN]
  have d2 : nOk (.text "") = true := by rw [nOk]; exact empty_ok
  have k : dEq (eN n) (eN (.text "")) = some (isE n) := by
    haveI : Decidable (eN n = eN (.text "")) := Classical.propDecidable _
    have dn := nDep n
    have d0 := nDep (.text "")
    rw [dEq_B (nOk_B n h) (nOk_B _ d2) (by omega) (by rw [nH] at d0; omega)]
    congr 1
    rw [Bool.eq_iff_iff, decide_eq_true_iff]
    have q1 : ¬ ("show" : Str) = "text" := by decide +kernel
    cases n with
    | text x => simp [eN, isE]
    | shw x => simp [eN, isE, q1]
    | num => simp [eN, isE]
    | sel x cs o => simp [eN, isE]
    | plu x f cs o => simp [eN, isE]
  rw [e]; unfold cNe; rw [k]; rfl
theorem run_cases (n : Nat) (nd : Nd) (cs : List Cs) (o : List Nd) (S : List D) (h : (∃ x, nd = .sel x cs o) ∨ ∃ x f, nd = .plu x f cs o) : run (n + 1) 1 [eN nd] S = .ok (.lst (eCs cs)) S := by
  rw [run_1]
  rcases h with ⟨x, rfl⟩ | ⟨x, f, rfl⟩ <;> simp [B_1, eN, at4_m2, at5_m2]
theorem run_other (n : Nat) (nd : Nd) (cs : List Cs) (o : List Nd) (S : List D) (h : (∃ x, nd = .sel x cs o) ∨ ∃ x f, nd = .plu x f cs o) : run (n + 1) 2 [eN nd] S = .ok (.lst (eL o)) S := by
  rw [run_2]
  rcases h with ⟨x, rfl⟩ | ⟨x, f, rfl⟩ <;> simp [B_2, eN, at4_m1, at5_m1]
theorem W_le {a : Nat} (h : a ≤ 5000000) : a ≤ sizeLine := Nat.le_trans h (by decide)
theorem lW_one (n : Nd) : lW [n] = nW n := by rw [lW, lW]; rfl
theorem mem_lOk {m : List Nd} {n : Nd} (h : n ∈ m) (ho : lOk m = true) : nOk n = true := by
  induction m with
  | nil => cases h
  | cons x r ih =>
    rw [lOk, Bool.and_eq_true] at ho
    rcases List.mem_cons.mp h with rfl | h
    · exact ho.1
    · exact ih h ho.2
theorem mem_lH {m : List Nd} {n : Nd} (h : n ∈ m) : nH n ≤ lH m := by
  induction m with
  | nil => cases h
  | cons x r ih =>
    rw [lH]
    rcases List.mem_cons.mp h with rfl | h
    · omega
    · have := ih h; omega
theorem mem_lW {m : List Nd} {n : Nd} (h : n ∈ m) : nW n ≤ lW m := by
  induction m with
  | nil => cases h
  | cons x r ih =>
    rw [lW]
    rcases List.mem_cons.mp h with rfl | h
    · omega
    · have := ih h; omega
theorem mem_csOk {m : List Cs} {n : Cs} (h : n ∈ m) (ho : csOk m = true) : cOk n = true := by
  induction m with
  | nil => cases h
  | cons x r ih =>
    rw [csOk, Bool.and_eq_true] at ho
    rcases List.mem_cons.mp h with rfl | h
    · exact ho.1
    · exact ih h ho.2
theorem mem_csH {m : List Cs} {n : Cs} (h : n ∈ m) : cH n ≤ csH m := by
  induction m with
  | nil => cases h
  | cons x r ih =>
    rw [csH]
    rcases List.mem_cons.mp h with rfl | h
    · omega
    · have := ih h; omega
theorem mem_csW {m : List Cs} {n : Cs} (h : n ∈ m) : cW n ≤ csW m := by
  induction m with
  | nil => cases h
  | cons x r ih =>
    rw [csW]
    rcases List.mem_cons.mp h with rfl | h
    · omega
    · have := ih h; omega
def cKey : Cs → Ky | .mk k _ => k
def cMsg : Cs → List Nd | .mk _ m => m
theorem eC1_eq (c : Cs) : eC1 c = .tup [eK (cKey c), .lst (eL (cMsg c))] := by cases c; rw [eC1]; rfl
@[simp] theorem ref_eK (k : Ky) (S : List D) : deref S (eK k) = eK k := by cases k <;> rfl
theorem comp_cases {ε : De} {Γ : List Sl} {S : List D} {i j : Nat} (f : Cs → D) (cs : List Cs) (h : ∀ c ∈ cs, ε ((Γ.set i (.val (eK (cKey c)))).set j (.val (.lst (eL (cMsg c))))) S = .ok (f c) S) :
    compD (.tp [.nm i, .nm j]) tTrue ε (eCs cs) Γ S = .ok (cs.map f) S := by
  have key : ∀ (xs : List Cs), (∀ c ∈ xs, c ∈ cs) → compD (.tp [.nm i, .nm j]) tTrue ε (eCs xs) Γ S = .ok (xs.map f) S := fun xs => by
    induction xs with
    | nil => intro _; rw [eCs]; rfl
    | cons c r ih =>
      intro hm
      have hc := h c (hm c List.mem_cons_self)
      have hr := ih fun x hx => hm x (List.mem_cons_of_mem _ hx)
      rw [eCs, compD, eC1_eq]
      simp [hc, hr]
  exact key cs fun c h => h
theorem lenOk_le {ds : List D} (h : ds.length ≤ 5000000) : lenOk ds = some (.lst ds) := if_pos (W_le h)
def inner : Nd → List (List Nd)
  | .sel _ cs o => cs.map cMsg ++ [o]
  | .plu _ _ cs o => cs.map cMsg ++ [o]
  | .text _ => []
  | .shw _ => []
  | .num => []
def eM (m : List Nd) : D := .lst (eL m)
@[simp] theorem ref_eM (m : List Nd) (S : List D) : deref S (eM m) = eM m := rfl
theorem comp_msgs (cs : List Cs) (ε : De) (Γ : List Sl) (S : List D) (i j : Nat) (h : ∀ c ∈ cs, ε ((Γ.set i (.val (eK (cKey c)))).set j (.val (.lst (eL (cMsg c))))) S = .ok (eM (cMsg c)) S) :
    compD (.tp [.nm i, .nm j]) tTrue ε (eCs cs) Γ S = .ok ((cs.map cMsg).map eM) S := by
  rw [comp_cases (fun c => eM (cMsg c)) cs h, List.map_map]; rfl
theorem inner_nil (nd : Nd) (h : isC nd = false) : inner nd = [] := by cases nd <;> first | rfl | cases h
theorem inner_facts (nd : Nd) : ∀ m ∈ inner nd, lH m + 1 ≤ nH nd ∧ lW m ≤ nW nd := fun m hm => by
  have key : ∀ (cs : List Cs) (o : List Nd), m ∈ cs.map cMsg ++ [o] → lH m ≤ max (csH cs) (lH o) ∧ lW m ≤ csW cs + lW o := fun cs o h => by
    rcases List.mem_append.mp h with h | h
    · obtain ⟨c, hc, rfl⟩ := List.mem_map.mp h
      have a2 := mem_csH hc
      have a3 := mem_csW hc
      cases c with
      | mk k m2 =>
        rw [cH] at a2
        rw [cW] at a3
        simp only [cMsg]
        omega
    · obtain rfl := List.mem_singleton.mp h
      omega
  cases nd with
  | text x => cases hm
  | shw x => cases hm
  | num => cases hm
  | sel x cs o => have := key cs o hm; rw [nH, nW]; omega
  | plu x f cs o => have := key cs o hm; rw [nH, nW]; omega
theorem inner_len (nd : Nd) (hw : nW nd ≤ 5000000) : (inner nd).length ≤ 5000000 := by
  cases nd with
  | text x => exact Nat.zero_le _
  | shw x => exact Nat.zero_le _
  | num => exact Nat.zero_le _
  | sel x cs o =>
    have cl := csW_len cs
    rw [nW] at hw
    simp [inner]; omega
  | plu x f cs o =>
    have cl := csW_len cs
    rw [nW] at hw
    simp [inner]; omega
theorem s0 : ¬ sizeLine = 0 := by decide

end
section
open PySem L2 DL
/-! ### the reader: text, place, inside -/
def rd (t : Str) (p : Nat) (b : Bool) : D := .ins 21 ["text", "place", "inside"] [.str t, .int p, .bl b]
/-- the sign at a place -/
def cAt (t : Str) (p : Nat) : Option Nat := t.cps.toList[p]?
def sg (c : Nat) : Str := ⟨#[c]⟩
theorem set_cc (A : List D) (x y : D) : (A ++ [x]).set A.length y = A ++ [y] := by
  rw [List.set_append_right _ _ (Nat.le_refl _), Nat.sub_self]; rfl
theorem get_cc (A : List D) (x : D) : (A ++ [x])[A.length]? = some x := List.getElem?_concat_length
theorem lk_text (x y z : D) : List.lookup ("text" : Str) [(("text" : Str), x), ("place", y), ("inside", z)] = some x := by
  simp [List.lookup]
theorem ne_pt : (("place" : Str) == "text") = false := by decide +kernel
theorem ne_it : (("inside" : Str) == "text") = false := by decide +kernel
theorem ne_ip : (("inside" : Str) == "place") = false := by decide +kernel
theorem lk_place (x y z : D) : List.lookup ("place" : Str) [(("text" : Str), x), ("place", y), ("inside", z)] = some y := by
  simp [List.lookup, ne_pt]
theorem lk_inside (x y z : D) : List.lookup ("inside" : Str) [(("text" : Str), x), ("place", y), ("inside", z)] = some z := by
  simp [List.lookup, ne_it, ne_ip]
section
variable {A : List D} {t : Str} {p : Nat} {b : Bool}
theorem at_text (i : Nat) {Γ : List Sl} (h : Γ[i]? = some (.val (.ptr A.length))) : eAtt "text" ga_text (eV i) Γ (A ++ [rd t p b]) = .ok (.str t) (A ++ [rd t p b]) := by
  rw [x_eAtt, x_eV, h]
  have g : ga_text 21 = true := rfl
  have lk := lk_text (.str t) (.int p) (.bl b)
  simp [rd, g, lk]
theorem at_place (i : Nat) {Γ : List Sl} (h : Γ[i]? = some (.val (.ptr A.length))) : eAtt "place" ga_place (eV i) Γ (A ++ [rd t p b]) = .ok (.int p) (A ++ [rd t p b]) := by
  rw [x_eAtt, x_eV, h]
  have g : ga_place 21 = true := rfl
  have lk := lk_place (.str t) (.int p) (.bl b)
  simp [rd, g, lk]
theorem at_inside (i : Nat) {Γ : List Sl} (h : Γ[i]? = some (.val (.ptr A.length))) : eAtt "inside" ga_inside (eV i) Γ (A ++ [rd t p b]) = .ok (.bl b) (A ++ [rd t p b]) := by
  rw [x_eAtt, x_eV, h]
  have g : ga_inside 21 = true := rfl
  have lk := lk_inside (.str t) (.int p) (.bl b)
  simp [rd, g, lk]
theorem put_place (x y z n : D) : putD ("place" : Str) n ["text", "place", "inside"] [x, y, z] = ((["text", "place", "inside"] : List Str), [x, n, z]) := by
  have e : ¬ ("text" : Str) = "place" := by decide +kernel
  unfold putD; rw [if_neg e]; unfold putD; rw [if_pos rfl]
/-- o.place += k -/
theorem add_place (i : Nat) {Γ : List Sl} (h : Γ[i]? = some (.val (.ptr A.length))) {e : De} {k : Nat} (he : ∀ S, e Γ S = .ok (.int k) S) : sAttA "place" ga_place (eV i) e Γ (A ++ [rd t p b]) = .next Γ (A ++ [rd t (p + k) b]) := by
  have g : ga_place 21 = true := rfl
  have lk := lk_place (.str t) (.int p) (.bl b)
  have pp := put_place (.str t) (.int p) (.bl b) (.int ((p : Int) + k))
  have sc := set_cc A
  rw [x_sAttA, x_eV, h]
  simp [rd, g, lk, he, pp, sc]
theorem dIdx_s (hl : t.length ≤ sizeLine) {c : Nat} (h : cAt t p = some c) : dIdx (.str t) (.int p) = some (.str (sg c)) := by
  show (if t.length ≤ sizeLine then (atI t.cps.toList (p : Int)).map fun c => D.str ⟨#[c]⟩ else none) = _
  rw [if_pos hl, atI_get?]
  unfold cAt at h
  rw [h]; rfl
theorem dLen_s (hl : t.length ≤ sizeLine) : dLen (.str t) = some (.int t.length) := if_pos hl
theorem cAt_lt {c : Nat} (h : cAt t p = some c) : p < t.length := by
  have := (List.getElem?_eq_some_iff.mp h).1
  have z : p < t.cps.size := by simpa using this
  exact z
theorem cAt_none (h : cAt t p = none) : t.length ≤ p := by
  have := List.getElem?_eq_none_iff.mp h
  have z : t.cps.size ≤ p := by simpa using this
  exact z
theorem run_sign (n : Nat) (hl : t.length ≤ sizeLine) {c : Nat} (h : cAt t p = some c) : run (n + 1) 57 [.ptr A.length] (A ++ [rd t p b]) = .ok (.str (sg c)) (A ++ [rd t p b]) := by
  rw [run_57]
  have a1 := at_text (A := A) (t := t) (p := p) (b := b) 0 (Γ := [.val (.ptr A.length)]) rfl
  have a2 := at_place (A := A) (t := t) (p := p) (b := b) 0 (Γ := [.val (.ptr A.length)]) rfl
  have hp := cAt_lt h
  have i1 := dIdx_s hl h
  have i2 := dLen_s hl
  have hn : ¬ (t.length : Int) ≤ (p : Int) := by omega
  simp [-x_eAtt, B_57, a1, a2, i1, i2, hn]
end

end
section
open PySem L2 DL
/-! ### rows of signs -/
theorem while_run {τ : Dt} {β : Ds} {Γ : List Sl} {F : Nat → List D} : ∀ (k p fu : Nat), (∀ j, j < k → τ Γ (F (p + j)) = .ok true (F (p + j))) → (∀ j, j < k → β Γ (F (p + j)) = .next Γ (F (p + j + 1))) → τ Γ (F (p + k)) = .ok false (F (p + k)) → k < fu →
    whileD τ [] β fu Γ (F p) = .next Γ (F (p + k))
  | 0, p, fu, _, _, hs, hk => by
    obtain ⟨f, rfl⟩ : ∃ f, fu = f + 1 := ⟨fu - 1, by omega⟩
    rw [Nat.add_zero] at hs
    rw [whileD, hs, after_ok]; rfl
  | k + 1, p, fu, ht, hb, hs, hk => by
    obtain ⟨f, rfl⟩ : ∃ f, fu = f + 1 := ⟨fu - 1, by omega⟩
    have h0 := ht 0 (by omega)
    have b0 := hb 0 (by omega)
    rw [Nat.add_zero] at h0 b0
    have ih := while_run (τ := τ) (β := β) (Γ := Γ) (F := F) k (p + 1) f (fun j hj => by have := ht (j + 1) (by omega); rw [show p + (j + 1) = p + 1 + j by omega] at this; exact this)
      (fun j hj => by have := hb (j + 1) (by omega); rw [show p + (j + 1) = p + 1 + j by omega] at this; exact this) (by rw [show p + 1 + k = p + (k + 1) by omega]; exact hs) (by omega)
    rw [whileD, h0, after_ok, if_pos rfl, b0]
    simp only [x_clr0]
    rw [ih, show p + 1 + k = p + (k + 1) by omega]
theorem cIn_s {c : Nat} {w : Str} : cIn (.str (sg c)) (.str w) = some (.bl (decide (c ∈ w.cps.toList))) := by
  unfold cIn
  show (if (sg c).length = 1 then some (decide ((sg c).cps.getD 0 0 ∈ w.cps.toList)) else none).map D.bl = _
  rw [if_pos (show (sg c).length = 1 from rfl)]; rfl
/-- the signs from p on, k many, are of w; the next one is not -/
structure Row (t w : Str) (p k : Nat) : Prop where
  ins : ∀ j, j < k → ∃ c, cAt t (p + j) = some c ∧ c ∈ w.cps.toList
  out : ∀ c, cAt t (p + k) = some c → c ∉ w.cps.toList
def spW : Str := " \n"
section
variable {A : List D} {t : Str} {p : Nat} {b : Bool}
theorem Row.le {w : Str} {k : Nat} (h : Row t w p k) (hp : p ≤ t.length) : p + k ≤ t.length := by
  by_cases z : k = 0
  · omega
  · obtain ⟨c, hc, _⟩ := h.ins (k - 1) (by omega)
    have := cAt_lt hc
    omega
theorem test_row {w : Str} {q : Nat} {Γ : List Sl} {e : De} (i : Nat) (h0 : Γ[i]? = some (.val (.ptr A.length))) (he : ∀ S, e Γ S = .ok (.str w) S) (hl : t.length ≤ sizeLine) :
    (tAndD (tB (eOp oLt (eAtt "place" ga_place (eV i)) (eUn dLen (eAtt "text" ga_text (eV i))))) (tB (eOp cIn (eOp dIdx (eAtt "text" ga_text (eV i)) (eAtt "place" ga_place (eV i))) e))) Γ (A ++ [rd t q b]) =
      .ok (match cAt t q with | some c => decide (c ∈ w.cps.toList) | none => false) (A ++ [rd t q b]) := by
  have a1 := at_text (A := A) (t := t) (p := q) (b := b) i h0
  have a2 := at_place (A := A) (t := t) (p := q) (b := b) i h0
  have i2 := dLen_s hl
  cases z : cAt t q with
  | none =>
    have := cAt_none z
    have hn : ¬ (q : Int) < (t.length : Int) := by omega
    simp [-x_eAtt, a1, a2, i2, hn]
  | some c =>
    have := cAt_lt z
    have hn : (q : Int) < (t.length : Int) := by omega
    have i1 := dIdx_s hl z
    have ci := cIn_s (c := c) (w := w)
    simp [-x_eAtt, a1, a2, i2, hn, i1, he, ci]
theorem row_loop {w : Str} {k : Nat} {τ : Dt} {β : Ds} {Γ : List Sl} {e : De} (i : Nat) (h0 : Γ[i]? = some (.val (.ptr A.length))) (he : ∀ S, e Γ S = .ok (.str w) S) (hl : t.length ≤ sizeLine) (hk : k < 1000000)
    (eτ : τ = tAndD (tB (eOp oLt (eAtt "place" ga_place (eV i)) (eUn dLen (eAtt "text" ga_text (eV i))))) (tB (eOp cIn (eOp dIdx (eAtt "text" ga_text (eV i)) (eAtt "place" ga_place (eV i))) e)))
    (eβ : β = sAttA "place" ga_place (eV i) (eC (.int 1))) (hr : Row t w p k) : whileD τ [] β fuel Γ (A ++ [rd t p b]) = .next Γ (A ++ [rd t (p + k) b]) := by
  subst eτ; subst eβ
  refine while_run (F := fun q => A ++ [rd t q b]) k p fuel (fun j hj => ?_) (fun j hj => ?_) ?_ hk
  · obtain ⟨c, hc, hm⟩ := hr.ins j hj
    rw [test_row i h0 he hl, hc]
    simp [hm]
  · exact add_place i h0 (fun _ => rfl)
  · rw [test_row i h0 he hl]
    cases z : cAt t (p + k) with
    | none => rfl
    | some c =>
      have := hr.out c z
      simp [this]
theorem run_skip (n : Nat) {k : Nat} (hl : t.length ≤ sizeLine) (hk : k < 1000000) (hr : Row t spW p k) : run (n + 1) 58 [.ptr A.length] (A ++ [rd t p b]) = .ok .non (A ++ [rd t (p + k) b]) := by
  rw [run_58]
  have lp := row_loop (A := A) (b := b) (w := spW) (Γ := [.val (.ptr A.length)]) (τ := T_58_2 (run n)) (β := L_58_1 (run n)) 0 rfl (fun _ => rfl) hl hk rfl rfl hr
  simp [B_58, lp]
theorem meth_rd (i : Nat) {Γ : List Sl} {m : Str} {F : List D → List D → Res D} {α : Da} (h : Γ[i]? = some (.val (.ptr A.length))) (hm : (["text", "place", "inside"] : List Str).contains m = false) : eMeth 21 m F (eV i) α Γ (A ++ [rd t p b]) = (α Γ (A ++ [rd t p b])).bind fun ds S2 => F (.ptr A.length :: ds) S2 := by
  rw [x_eMeth, x_eV, h]
  simp only [Res.bind_ok]
  have e : deref (A ++ [rd t p b]) (.ptr A.length) = rd t p b := by rw [deref_ptr, get_cc]
  rw [e]
  show (if 21 = 21 ∧ (["text", "place", "inside"] : List Str).contains m = false then _ else _) = _
  rw [if_pos ⟨rfl, hm⟩]
theorem nm_skip : (["text", "place", "inside"] : List Str).contains "skip" = false := by decide +kernel
theorem nm_sign : (["text", "place", "inside"] : List Str).contains "sign" = false := by decide +kernel
/-- spaces, and then the sign c -/
theorem run_expect (n : Nat) {k c : Nat} (hl : t.length ≤ sizeLine) (hk : k < 1000000) (hr : Row t spW p k) (hc : cAt t (p + k) = some c) : run (n + 2) 59 [.ptr A.length, .str (sg c)] (A ++ [rd t p b]) = .ok .non (A ++ [rd t (p + k + 1) b]) := by
  rw [run_59]
  have r1 := run_skip (A := A) (b := b) n hl hk hr
  have r2 := run_sign (A := A) (b := b) n hl hc
  have m1 := meth_rd (A := A) (t := t) (p := p) (b := b) 0 (Γ := [.val (.ptr A.length), .val (.str (sg c))]) (F := run (n + 1) 58) (α := aNil) rfl nm_skip
  have m2 := meth_rd (A := A) (t := t) (p := p + k) (b := b) 0 (Γ := [.val (.ptr A.length), .val (.str (sg c))]) (F := run (n + 1) 57) (α := aNil) rfl nm_sign
  have ad := add_place (A := A) (t := t) (p := p + k) (b := b) 0 (Γ := [.val (.ptr A.length), .val (.str (sg c))]) rfl (e := eC (.int 1)) (k := 1) (fun _ => rfl)
  simp [-x_eMeth, -x_sAttA, B_59, m1, r1, m2, r2, ad]
end

end
section
open PySem L2 DL
/-! ### words and numbers -/
theorem nm_run : (["text", "place", "inside"] : List Str).contains "run" = false := by decide +kernel
section
variable {A : List D} {t : Str} {p : Nat} {b : Bool}
theorem dCut_s (hl : t.length ≤ sizeLine) (lo hi : Option Int) : dCut (.str t) lo hi = some (.str (cutS t lo hi)) := if_pos hl
theorem run_run (n : Nat) {w : Str} {k1 k2 : Nat} (hl : t.length ≤ sizeLine) (hk1 : k1 < 1000000) (hk2 : k2 < 1000000) (h1 : Row t spW p k1) (h2 : Row t w (p + k1) k2) :
    run (n + 2) 60 [.ptr A.length, .str w] (A ++ [rd t p b]) = .ok (.tup [.str (cutS t (some ((p + k1 : Nat) : Int)) (some ((p + k1 + k2 : Nat) : Int))), .int ((p + k1 : Nat) : Int)]) (A ++ [rd t (p + k1 + k2) b]) := by
  rw [run_60]
  have r1 := run_skip (A := A) (b := b) n hl hk1 h1
  have m1 := meth_rd (A := A) (t := t) (p := p) (b := b) 0 (Γ := [.val (.ptr A.length), .val (.str w), .non]) (F := run (n + 1) 58) (α := aNil) rfl nm_skip
  have a2 := at_place (A := A) (t := t) (p := p + k1) (b := b) 0 (Γ := [.val (.ptr A.length), .val (.str w), .non]) rfl
  have lp := row_loop (A := A) (b := b) (w := w) (Γ := [.val (.ptr A.length), .val (.str w), .val (.int ((p + k1 : Nat) : Int))]) (e := eV 1) (τ := T_60_2 (run (n + 1))) (β := L_60_1 (run (n + 1))) 0 rfl (fun _ => rfl) hl hk2 rfl rfl h2
  have a3 := at_place (A := A) (t := t) (p := p + k1 + k2) (b := b) 0 (Γ := [.val (.ptr A.length), .val (.str w), .val (.int ((p + k1 : Nat) : Int))]) rfl
  have a4 := at_text (A := A) (t := t) (p := p + k1 + k2) (b := b) 0 (Γ := [.val (.ptr A.length), .val (.str w), .val (.int ((p + k1 : Nat) : Int))]) rfl
  have dc := dCut_s hl (some ((p + k1 : Nat) : Int)) (some ((p + k1 + k2 : Nat) : Int))
  generalize ((p + k1 : Nat) : Int) = i1 at *
  generalize ((p + k1 + k2 : Nat) : Int) = i2 at *
  simp [-x_eMeth, -x_eAtt, B_60, m1, r1, a2, lp, a3, a4, dc]
end

end
section
open PySem L2 DL
/-! ### texts that stand in texts -/
/-- the text x stands in t at p -/
def At (t : Str) (p : Nat) (x : Str) : Prop := (t.cps.toList.drop p).take x.length = x.cps.toList
theorem len_cps (x : Str) : x.cps.toList.length = x.length := by
  show x.cps.toList.length = x.cps.size
  simp
theorem At.le {t x : Str} {p : Nat} (h : At t p x) (hp : p ≤ t.length) : p + x.length ≤ t.length := by
  have e := congrArg List.length h
  rw [List.length_take, List.length_drop, len_cps, len_cps] at e
  omega
theorem At.cAt {t x : Str} {p : Nat} (h : At t p x) {j : Nat} (hj : j < x.length) : cAt t (p + j) = x.cps.toList[j]? := by
  unfold PV.cAt
  rw [← h, List.getElem?_take_of_lt hj, List.getElem?_drop]
theorem cut_at {t x : Str} {p : Nat} (h : At t p x) (hp : p ≤ t.length) : cutS t (some ((p : Nat) : Int)) (some ((p + x.length : Nat) : Int)) = x := by
  have le := h.le hp
  have e : cutS t (some ((p : Nat) : Int)) (some ((p + x.length : Nat) : Int)) = ⟨((t.cps.toList.drop (HT.sIx t.length 0 (some (p : Int)))).take (HT.sIx t.length t.length (some ((p + x.length : Nat) : Int)) - HT.sIx t.length 0 (some (p : Int)))).toArray⟩ := rfl
  rw [e, HT.sIx_nat, HT.sIx_nat, Nat.min_eq_left hp, Nat.min_eq_left le, Nat.add_sub_cancel_left, h]

end
section
open PySem L2 DL
/-! ### a name -/
def LT : Str := "abcdefghijklmnopqrstuvwxyz"
section
variable {A : List D} {t : Str} {p : Nat} {b : Bool}
theorem row_at {w x : Str} (h : At t p x) (hi : ∀ c ∈ x.cps.toList, c ∈ w.cps.toList) (ho : ∀ c, cAt t (p + x.length) = some c → c ∉ w.cps.toList) : Row t w p x.length where
  ins := fun j hj => by
    have e := h.cAt hj
    have hj2 : j < x.cps.toList.length := by rw [len_cps]; exact hj
    rw [List.getElem?_eq_getElem hj2] at e
    exact ⟨_, e, hi _ (List.getElem_mem hj2)⟩
  out := ho
theorem ne_nil {x : Str} (h : 1 ≤ x.length) : (x == ("" : Str)) = false := by
  cases e : x == ("" : Str) with
  | false => rfl
  | true =>
    rw [eq_of_beq e] at h
    exact absurd h (by decide)
theorem run_word (n : Nat) {k1 : Nat} {x : Str} (hl : t.length ≤ sizeLine) (hp : p ≤ t.length) (hk1 : k1 < 1000000) (h1 : Row t spW p k1) (h2 : At t (p + k1) x) (hi : ∀ c ∈ x.cps.toList, c ∈ LT.cps.toList) (ho : ∀ c, cAt t (p + k1 + x.length) = some c → c ∉ LT.cps.toList) (x1 : 1 ≤ x.length) (x8 : x.length ≤ 8) :
    run (n + 3) 61 [.ptr A.length] (A ++ [rd t p b]) = .ok (.tup [.str x, .int ((p + k1 : Nat) : Int)]) (A ++ [rd t (p + k1 + x.length) b]) := by
  rw [run_61]
  have r1 := run_run (A := A) (b := b) n hl hk1 (show x.length < 1000000 by omega) h1 (row_at h2 hi ho)
  rw [cut_at h2 (h1.le hp)] at r1
  have m1 := meth_rd (A := A) (t := t) (p := p) (b := b) 0 (Γ := [.val (.ptr A.length), .non, .non]) (F := run (n + 2) 60) (α := aCons (eC (.str LT)) aNil) rfl nm_run
  have e := ne_nil x1
  have sx : dLen (.str x) = some (.int x.length) := if_pos (Nat.le_trans x8 (by decide))
  have c1 : (1 : Int) ≤ (x.length : Int) := by omega
  have c2 : (x.length : Int) ≤ 8 := by omega
  generalize ((p + k1 : Nat) : Int) = i1 at *
  unfold LT at m1 r1
  simp [-x_eMeth, B_61, m1, r1, e, sx, c1, c2]
end

end
section
open PySem L2 DL
/-! ### a number -/
def FG : Str := "0123456789"
def nt (i : Nat) : Str := toString (i : Int)
/-- what is asked of a number's text -/
def ntOk (i : Nat) : Bool := decide (1 ≤ (nt i).length) && decide ((nt i).length ≤ 3) && (nt i).cps.toList.all (fun c => decide (c ∈ FG.cps.toList)) && decide (PySem.intText? (nt i) = some (i : Int)) && (match (nt i).cps.toList[0]? with | some c => (c != 48 || (nt i == ("0" : Str))) | none => false)
theorem nt_all : (List.range 1000).all ntOk = true := by decide +kernel
structure NtOk (i : Nat) : Prop where
  l1 : 1 ≤ (nt i).length
  l3 : (nt i).length ≤ 3
  fg : ∀ c ∈ (nt i).cps.toList, c ∈ FG.cps.toList
  it : PySem.intText? (nt i) = some (i : Int)
  z : ∃ c, cAt (nt i) 0 = some c ∧ (c ≠ 48 ∨ nt i = "0")
theorem nt_ok {i : Nat} (h : i ≤ 999) : NtOk i := by
  have := List.all_eq_true.mp nt_all i (List.mem_range.mpr (by omega))
  unfold ntOk at this
  simp only [Bool.and_eq_true, decide_eq_true_iff, List.all_eq_true] at this
  obtain ⟨⟨⟨⟨a, b⟩, c⟩, d⟩, e⟩ := this
  refine ⟨a, b, c, d, ?_⟩
  unfold cAt
  cases q : (nt i).cps.toList[0]? with
  | none => rw [q] at e; cases e
  | some c =>
    rw [q] at e
    simp only [Bool.or_eq_true, bne_iff_ne, beq_iff_eq] at e
    exact ⟨c, rfl, e⟩
section
variable {A : List D} {t : Str} {p : Nat} {b : Bool}
theorem sg_0 (c : Nat) : (sg c == ("0" : Str)) = decide (c = 48) := by
  by_cases h : c = 48
  · subst h; decide +kernel
  · rw [decide_eq_false h]
    cases e : sg c == ("0" : Str) with
    | false => rfl
    | true =>
      exfalso
      have e2 : sg c = ("0" : Str) := eq_of_beq e
      have e3 : (sg c).cps.toList = (("0" : Str)).cps.toList := by rw [e2]
      have e4 : (("0" : Str)).cps.toList = [48] := by decide +kernel
      rw [e4] at e3
      exact h (List.cons.inj e3).1
theorem run_nat (n : Nat) {i m : Nat} (hl : t.length ≤ sizeLine) (hp : p ≤ t.length) (hi : i ≤ m) (hm : m ≤ 999) (h2 : At t p (nt i)) (ho : ∀ c, cAt t (p + (nt i).length) = some c → c ∉ FG.cps.toList) :
    run (n + 1) 62 [.ptr A.length, .int m] (A ++ [rd t p b]) = .ok (.int i) (A ++ [rd t (p + (nt i).length) b]) := by
  rw [run_62]
  have ok := nt_ok (i := i) (by omega)
  have l3 := ok.l3
  have a2 := at_place (A := A) (t := t) (p := p) (b := b) 0 (Γ := [.val (.ptr A.length), .val (.int m), .non, .non]) rfl
  have lp := row_loop (A := A) (b := b) (w := FG) (Γ := [.val (.ptr A.length), .val (.int m), .val (.int (p : Int)), .non]) (e := eC (.str FG)) (τ := T_62_2 (run n)) (β := L_62_1 (run n)) 0 rfl (fun _ => rfl) hl (by omega) rfl rfl (row_at h2 ok.fg ho)
  have a3 := at_place (A := A) (t := t) (p := p + (nt i).length) (b := b) 0 (Γ := [.val (.ptr A.length), .val (.int m), .val (.int (p : Int)), .non]) rfl
  have a4 := at_text (A := A) (t := t) (p := p + (nt i).length) (b := b) 0 (Γ := [.val (.ptr A.length), .val (.int m), .val (.int (p : Int)), .non]) rfl
  have dc := dCut_s hl (some (p : Int)) (some ((p + (nt i).length : Nat) : Int))
  rw [cut_at h2 hp] at dc
  have e := ne_nil ok.l1
  have szl : (nt i).length ≤ sizeLine := Nat.le_trans l3 (by decide)
  have sx : dLen (.str (nt i)) = some (.int (nt i).length) := if_pos szl
  obtain ⟨c, hc, hz⟩ := ok.z
  have ix : dIdx (.str (nt i)) (.int 0) = some (.str (sg c)) := dIdx_s szl hc
  have s0 := sg_0 c
  have di : dInt (.str (nt i)) = some (.int i) := by
    unfold dInt
    simp only [ok.it]
    exact if_pos (by omega)
  have c3 : ¬ (3 : Int) < ((nt i).length : Int) := by omega
  have cm : ¬ (m : Int) < (i : Int) := by omega
  have zz : decide (c = 48) = true → (nt i == ("0" : Str)) = true := fun q => by
    rcases hz with z | z
    · exact absurd (of_decide_eq_true q) z
    · rw [z]; decide +kernel
  generalize ((p + (nt i).length : Nat) : Int) = i2 at *
  by_cases q : c = 48
  · have zq := zz (by simpa using q)
    simp [-x_eMeth, -x_eAtt, B_62, a2, lp, a3, a4, dc, e, sx, ix, s0, q, di, c3, cm, zq]
  · simp [-x_eMeth, -x_eAtt, B_62, a2, lp, a3, a4, dc, e, sx, ix, s0, q, di, c3, cm]
end

end
section
open PySem L2 DL
/-! ### startswith at a place; the offset of a plural -/
theorem beg_at {t x : Str} {p : Nat} (hp : p ≤ t.length) : Txt.startswith3 t x (p : Int) = true ↔ At t p x := by
  have fi : fromIndex t.length (p : Int) = p := by
    unfold fromIndex
    rw [if_neg (by omega)]; omega
  unfold Txt.startswith3
  rw [fi, PySem.StrLaws.subAt_eq]
  unfold At
  constructor
  · intro h
    have := (Bool.and_eq_true _ _ ▸ h : _ ∧ _).2
    exact eq_of_beq this
  · intro h
    have le := At.le (show At t p x from h) hp
    rw [h, Bool.and_eq_true]
    exact ⟨decide_eq_true le, beq_self_eq_true _⟩
theorem nm_nat : (["text", "place", "inside"] : List Str).contains "natural" = false := by decide +kernel
section
variable {A : List D} {t : Str} {p : Nat} {b : Bool}
theorem run_off0 (n : Nat) {k : Nat} (hl : t.length ≤ sizeLine) (hp : p ≤ t.length) (hk : k < 1000000) (h1 : Row t spW p k) (no : ¬ At t (p + k) "offset:") :
    run (n + 2) 63 [.ptr A.length] (A ++ [rd t p b]) = .ok (.int 0) (A ++ [rd t (p + k) b]) := by
  rw [run_63]
  have r1 := run_skip (A := A) (b := b) n hl hk h1
  have m1 := meth_rd (A := A) (t := t) (p := p) (b := b) 0 (Γ := [.val (.ptr A.length)]) (F := run (n + 1) 58) (α := aNil) rfl nm_skip
  have a2 := at_place (A := A) (t := t) (p := p + k) (b := b) 0 (Γ := [.val (.ptr A.length)]) rfl
  have a3 := at_text (A := A) (t := t) (p := p + k) (b := b) 0 (Γ := [.val (.ptr A.length)]) rfl
  have s3 : Txt.startswith3 t "offset:" ((p + k : Nat) : Int) = false := by
    cases e : Txt.startswith3 t "offset:" ((p + k : Nat) : Int) with
    | false => rfl
    | true => exact absurd ((beg_at (h1.le hp)).mp e) no
  generalize ((p + k : Nat) : Int) = i1 at *
  simp [-x_eMeth, -x_eAtt, B_63, m1, r1, a2, a3, s3]
theorem run_off (n : Nat) {k i : Nat} (hl : t.length ≤ sizeLine) (hp : p ≤ t.length) (hk : k < 1000000) (h1 : Row t spW p k) (yes : At t (p + k) "offset:") (hi : i ≤ 9) (h2 : At t (p + k + 7) (nt i)) (ho : ∀ c, cAt t (p + k + 7 + (nt i).length) = some c → c ∉ FG.cps.toList) :
    run (n + 2) 63 [.ptr A.length] (A ++ [rd t p b]) = .ok (.int i) (A ++ [rd t (p + k + 7 + (nt i).length) b]) := by
  rw [run_63]
  have lo : ("offset:" : Str).length = 7 := by decide +kernel
  have le := At.le yes (h1.le hp)
  rw [lo] at le
  have r1 := run_skip (A := A) (b := b) n hl hk h1
  have r2 := run_nat (A := A) (b := b) n hl le hi (by decide) h2 ho
  have m1 := meth_rd (A := A) (t := t) (p := p) (b := b) 0 (Γ := [.val (.ptr A.length)]) (F := run (n + 1) 58) (α := aNil) rfl nm_skip
  have m2 := meth_rd (A := A) (t := t) (p := p + k + 7) (b := b) 0 (Γ := [.val (.ptr A.length)]) (F := run (n + 1) 62) (α := aCons (eC (.int 9)) aNil) rfl nm_nat
  have a2 := at_place (A := A) (t := t) (p := p + k) (b := b) 0 (Γ := [.val (.ptr A.length)]) rfl
  have a3 := at_text (A := A) (t := t) (p := p + k) (b := b) 0 (Γ := [.val (.ptr A.length)]) rfl
  have s3 := (beg_at (h1.le hp)).mpr yes
  have sx : dLen (.str ("offset:" : Str)) = some (.int 7) := by
    show (if ("offset:" : Str).length ≤ sizeLine then some (D.int ("offset:" : Str).length) else none) = _
    rw [lo]; rfl
  have ad := add_place (A := A) (t := t) (p := p + k) (b := b) 0 (Γ := [.val (.ptr A.length)]) rfl (e := eUn dLen (eC (.str "offset:"))) (k := 7) (fun S => by simp [sx])
  replace r2 : run (n + 1) 62 [.ptr A.length, .int 9] (A ++ [rd t (p + k + 7) b]) = .ok (.int i) (A ++ [rd t (p + k + 7 + (nt i).length) b]) := r2
  generalize ((p + k : Nat) : Int) = i1 at *
  simp [-x_eMeth, -x_eAtt, -x_sAttA, B_63, m1, r1, a2, a3, s3, ad, m2, r2]
end

end
section
open PySem L2 DL
/-! ### a text with its escapes -/
def ES : Str := "{}#'"
def escC (c : Nat) : Str := if c = 39 then ("''" : Str) else if c ∈ ES.cps.toList then ("'" : Str) ++ sg c ++ ("'" : Str) else sg c
def escL : List Nat → Str
  | [] => ""
  | c :: r => escC c ++ escL r
theorem sg_q (c : Nat) : (sg c == ("'" : Str)) = decide (c = 39) := by
  by_cases h : c = 39
  · subst h; decide +kernel
  · rw [decide_eq_false h]
    cases e : sg c == ("'" : Str) with
    | false => rfl
    | true =>
      exfalso
      have e2 : sg c = ("'" : Str) := eq_of_beq e
      have e3 : (sg c).cps.toList = (("'" : Str)).cps.toList := by rw [e2]
      have e4 : (("'" : Str)).cps.toList = [39] := by decide +kernel
      rw [e4] at e3
      exact h (List.cons.inj e3).1
theorem str_assoc (a b c : Str) : a ++ b ++ c = a ++ (b ++ c) := by
  show (⟨(a.cps ++ b.cps) ++ c.cps⟩ : Str) = ⟨a.cps ++ (b.cps ++ c.cps)⟩
  rw [Array.append_assoc]
theorem app_nil (a : Str) : a ++ ("" : Str) = a := str_app_nil a
theorem q_q : ("'" : Str) ++ ("'" : Str) = ("''" : Str) := by decide +kernel
theorem l_1 : ("'" : Str).length = 1 := by decide +kernel
theorem l_2 : ("''" : Str).length = 2 := by decide +kernel
theorem sl_app (a b : Str) : (a ++ b).length = a.length + b.length := strLen_append a b
theorem dAdd_ss {a b : Str} (h : a.length + b.length ≤ 1000) : dAdd (.str a) (.str b) = some (.str (a ++ b)) := if_pos (Nat.le_trans h (by decide))
theorem escC_len (c : Nat) : (escC c).length ≤ 3 := by
  unfold escC
  split
  · rw [l_2]; omega
  · split
    · rw [sl_app, sl_app, l_1]; show 1 + 1 + 1 ≤ 3; omega
    · show 1 ≤ 3; omega
theorem esc_loop (R : Rec) (v0 : Sl) (S : List D) : ∀ (cs : List Nat) (acc : Str), acc.length + 3 * cs.length ≤ 5000000 →
    forD (.nm 2) [2] (L_50_1 R) (cs.map fun c => D.str ⟨#[c]⟩) [v0, .val (.str acc), .non] S = .next [v0, .val (.str (acc ++ escL cs)), .non] S
  | [], acc, _ => by rw [escL, app_nil]; rfl
  | c :: r, acc, h => by
    rw [List.length_cons] at h
    have e3 := escC_len c
    have ih := esc_loop R v0 S r (acc ++ escC c) (by rw [sl_app]; omega)
    have sz : acc.length + (escC c).length ≤ sizeLine := Nat.le_trans (show _ ≤ 5000000 by omega) (by decide)
    have ad : dAddI (.str acc) (.str (escC c)) = some (.str (acc ++ escC c)) := if_pos sz
    have cq := sg_q c
    have ci := cIn_s (c := c) (w := ES)
    unfold sg at cq ci
    rw [List.map_cons, forD, x_bnm]
    rw [escL, ← str_assoc]
    unfold escC at ad ih ⊢
    by_cases q : c = 39
    · simp only [q, if_true] at ad ih ⊢
      have a1 : dAdd (.str ("'" : Str)) (.str ("'" : Str)) = some (.str ("''" : Str)) := by rw [← q_q]; exact dAdd_ss (by rw [l_1]; decide)
      subst q
      simp [e_L_50_1, cq, a1, ad]
      exact ih
    · by_cases m : c ∈ ES.cps.toList
      · simp only [q, m, if_true, if_false] at ad ih ⊢
        have a1 : dAdd (.str ("'" : Str)) (.str ⟨#[c]⟩) = some (.str (("'" : Str) ++ sg c)) := dAdd_ss (by rw [l_1]; show 1 + 1 ≤ 1000; omega)
        have a2 : dAdd (.str (("'" : Str) ++ sg c)) (.str ("'" : Str)) = some (.str (("'" : Str) ++ sg c ++ ("'" : Str))) := dAdd_ss (by rw [sl_app, l_1]; show 1 + 1 + 1 ≤ 1000; omega)
        unfold ES at ci m
        simp [e_L_50_1, cq, q, ci, m, a1, a2, ad]
        exact ih
      · simp only [q, m, if_false] at ad ih ⊢
        unfold ES at ci m
        unfold sg at ad ih ⊢
        simp [e_L_50_1, cq, q, ci, m, ad]
        exact ih
theorem nil_app (a : Str) : ("" : Str) ++ a = a := by
  show (⟨(#[] : Array Nat) ++ a.cps⟩ : Str) = a
  rw [Array.empty_append]
theorem run_fmt (n : Nat) (x : Str) (S : List D) (h : 3 * x.length ≤ 5000000) : run (n + 1) 50 [.str x] S = .ok (.str (escL x.cps.toList)) S := by
  rw [run_50]
  have lp := esc_loop (run n) (.val (.str x)) S x.cps.toList "" (by
    have : x.cps.toList.length = x.length := len_cps x
    rw [this]
    show 0 + 3 * x.length ≤ 5000000
    omega)
  rw [nil_app] at lp
  have it : items (.str x) = some (x.cps.toList.map fun c => D.str ⟨#[c]⟩) := rfl
  simp [B_50, it, lp]

end
section
open PySem L2 DL
/-! ### an escape is read -/
theorem run_fmt1 (n c : Nat) (S : List D) : run (n + 1) 50 [.str (sg c)] S = .ok (.str (escC c)) S := by
  have h := run_fmt n (sg c) S (by show 3 * 1 ≤ 5000000; decide)
  have e : escL (sg c).cps.toList = escC c := by show escL [c] = _; rw [escL, escL, app_nil]
  rw [e] at h; exact h
section
variable {A : List D} {t : Str} {p : Nat} {b : Bool}
theorem esc_no (n c : Nat) (hp : p ≤ t.length) (no : ¬ At t p (escC c)) : L_67_1 (run (n + 1)) [.val (.ptr A.length), .val (.str (sg c)), .non] (A ++ [rd t p b]) = .next [.val (.ptr A.length), .val (.str (sg c)), .val (.str (escC c))] (A ++ [rd t p b]) := by
  have r1 := run_fmt1 n c (A ++ [rd t p b])
  have a2 := at_place (A := A) (t := t) (p := p) (b := b) 0 (Γ := [.val (.ptr A.length), .val (.str (sg c)), .val (.str (escC c))]) rfl
  have a3 := at_text (A := A) (t := t) (p := p) (b := b) 0 (Γ := [.val (.ptr A.length), .val (.str (sg c)), .val (.str (escC c))]) rfl
  have s3 : Txt.startswith3 t (escC c) (p : Int) = false := by
    cases e : Txt.startswith3 t (escC c) (p : Int) with
    | false => rfl
    | true => exact absurd ((beg_at hp).mp e) no
  rw [e_L_67_1]
  simp [-x_eAtt, r1, a2, a3, s3]
theorem esc_yes (n c : Nat) (hp : p ≤ t.length) (yes : At t p (escC c)) : L_67_1 (run (n + 1)) [.val (.ptr A.length), .val (.str (sg c)), .non] (A ++ [rd t p b]) = .ret (.str (sg c)) (A ++ [rd t (p + (escC c).length) b]) := by
  have r1 := run_fmt1 n c (A ++ [rd t p b])
  have a2 := at_place (A := A) (t := t) (p := p) (b := b) 0 (Γ := [.val (.ptr A.length), .val (.str (sg c)), .val (.str (escC c))]) rfl
  have a3 := at_text (A := A) (t := t) (p := p) (b := b) 0 (Γ := [.val (.ptr A.length), .val (.str (sg c)), .val (.str (escC c))]) rfl
  have s3 := (beg_at hp).mpr yes
  have sx : dLen (.str (escC c)) = some (.int (escC c).length) := if_pos (Nat.le_trans (escC_len c) (by decide))
  have ad := add_place (A := A) (t := t) (p := p) (b := b) 0 (Γ := [.val (.ptr A.length), .val (.str (sg c)), .val (.str (escC c))]) rfl (e := eUn dLen (eV 2)) (k := (escC c).length) (fun S => by simp [sx])
  rw [e_L_67_1]
  simp [-x_eAtt, -x_sAttA, r1, a2, a3, s3, ad]
end

end
section
open PySem L2 DL
/-! ### the reading of a notation, as a function of what is left of the text; k: how many signs are left at the place that is told -/
inductive PR (α : Type) where
  | ok (a : α) (r : List Nat) | tok (k : Nat) | fin | out
def PR.bind {α β : Type} (x : PR α) (f : α → List Nat → PR β) : PR β := match x with
  | .ok a r => f a r
  | .tok k => .tok k
  | .fin => .fin
  | .out => .out
@[simp] theorem PR.bind_ok {α β : Type} (a : α) (r : List Nat) (f : α → List Nat → PR β) : (PR.ok a r).bind f = f a r := Eq.trans rfl rfl
@[simp] theorem PR.bind_tok {α β : Type} (k : Nat) (f : α → List Nat → PR β) : (PR.tok k : PR α).bind f = .tok k := Eq.trans rfl rfl
@[simp] theorem PR.bind_fin {α β : Type} (f : α → List Nat → PR β) : (PR.fin : PR α).bind f = .fin := Eq.trans rfl rfl
@[simp] theorem PR.bind_out {α β : Type} (f : α → List Nat → PR β) : (PR.out : PR α).bind f = .out := Eq.trans rfl rfl
instance decKy : DecidableEq Ky
  | .i a, .i b => if h : a = b then isTrue (by rw [h]) else isFalse (fun z => h (by cases z; rfl))
  | .s a, .s b => if h : a = b then isTrue (by rw [h]) else isFalse (fun z => h (by cases z; rfl))
  | .i _, .s _ => isFalse (fun z => by cases z)
  | .s _, .i _ => isFalse (fun z => by cases z)
def mkS (x : List Nat) : Str := ⟨x.toArray⟩
def inW (w : Str) (c : Nat) : Bool := decide (c ∈ w.cps.toList)
def pSkip (r : List Nat) : List Nat := r.dropWhile (inW spW)
def pExpect (c : Nat) (r : List Nat) : PR Unit := match pSkip r with
  | [] => .fin
  | d :: q => if d = c then .ok () q else .tok (q.length + 1)
def pWord (r : List Nat) : PR (Str × Nat) :=
  if (pSkip r).takeWhile (inW LT) = [] then (if pSkip r = [] then .fin else .tok (pSkip r).length)
  else if ((pSkip r).takeWhile (inW LT)).length ≤ 8 then .ok (mkS ((pSkip r).takeWhile (inW LT)), (pSkip r).length) ((pSkip r).dropWhile (inW LT)) else .tok (pSkip r).length
def nmV (x : List Nat) : Nat := x.foldl (fun a c => 10 * a + (c - 48)) 0
def pNat (most : Nat) (r : List Nat) : PR Nat :=
  if r.takeWhile (inW FG) = [] then (if r = [] then .fin else .tok r.length)
  else if (r.takeWhile (inW FG)).length ≤ 3 ∧ ((r.takeWhile (inW FG)).head? = some 48 → r.takeWhile (inW FG) = [48]) ∧ nmV (r.takeWhile (inW FG)) ≤ most then .ok (nmV (r.takeWhile (inW FG))) (r.dropWhile (inW FG)) else .tok r.length
def OF : Str := "offset:"
def pOff (r : List Nat) : PR Nat := if OF.cps.toList.isPrefixOf (pSkip r) = true then pNat 9 ((pSkip r).drop 7) else .ok 0 (pSkip r)
def catL : List Str := ["zero", "one", "two", "few", "many"]
def pKey (plu : Bool) (r : List Nat) : PR (Ky × Nat) :=
  if plu = true ∧ (pSkip r).head? = some 61 then (pNat 999 (pSkip r).tail).bind fun i z => .ok (.i i, (pSkip r).length) z
  else (pWord (pSkip r)).bind fun w z => if plu = true ∧ w.1 ∉ catL ∧ w.1 ≠ "other" then .tok w.2 else .ok (.s w.1, w.2) z
def pCases (plu : Bool) (M : List Nat → PR (List Nd)) : Nat → List Cs → List Nat → PR (List Cs × List Nd)
  | 0, _, _ => .out
  | f + 1, cs, r => (pKey plu r).bind fun kb z =>
    if cs.any (fun c => decide (cKey c = kb.1)) = true then .tok kb.2 else
    (pExpect 123 z).bind fun _ z2 => (M z2).bind fun m z3 => (pExpect 125 z3).bind fun _ z4 =>
    if kb.1 = .s "other" then (pExpect 125 z4).bind fun _ z5 => .ok (cs, m) z5 else pCases plu M f (cs ++ [.mk kb.1 m]) z4
def pChoice (plu ins : Bool) (M : Bool → List Nat → PR (List Nd)) (nm : Str) (r : List Nat) : PR Nd :=
  (pExpect 44 r).bind fun _ z =>
    if plu = true then (pOff z).bind fun f z2 => (pCases true (M true) (z2.length + 1) [] z2).bind fun cm z3 => .ok (.plu nm f cm.1 cm.2) z3
    else (pCases false (M ins) (z.length + 1) [] z).bind fun cm z3 => .ok (.sel nm cm.1 cm.2) z3
def pBraces (ins : Bool) (M : Bool → List Nat → PR (List Nd)) (r : List Nat) : PR Nd :=
  (pExpect 123 r).bind fun _ z => (pWord z).bind fun w z2 => match pSkip z2 with
    | [] => .fin
    | c :: q => if c = 125 then .ok (.shw w.1) q else (pExpect 44 (c :: q)).bind fun _ z3 => (pWord z3).bind fun k z4 =>
      if k.1 = "select" then pChoice false ins M w.1 z4 else if k.1 = "plural" then pChoice true ins M w.1 z4 else .tok k.2
def pEscs : List Nat → List Nat → PR Nat
  | [], r => .tok r.length
  | c :: cs, r => if (escC c).cps.toList.isPrefixOf r = true then .ok c (r.drop (escC c).length) else pEscs cs r
def sgnOk (c : Nat) : Bool := decide (c = 10 ∨ (32 ≤ c ∧ c ≤ 126))
def pNode (ins : Bool) (M : Bool → List Nat → PR (List Nd)) : List Nat → PR Nd
  | [] => .fin
  | c :: q => if c = 123 then pBraces ins M (c :: q) else if c = 39 then (pEscs [123, 125, 35, 39] (c :: q)).bind fun d z => .ok (.text (sg d)) z
    else if c = 35 ∧ ins = true then .ok .num q else if inW ES c = true ∨ sgnOk c = false then .tok (q.length + 1) else .ok (.text (sg c)) q
def pNodes (N : List Nat → PR Nd) : Nat → List Nd → List Nat → PR (List Nd)
  | 0, _, _ => .out
  | f + 1, acc, r => if r = [] ∨ r.head? = some 125 then .ok acc r else (N r).bind fun nd z => pNodes N f (acc ++ [nd]) z
def pMsg : Nat → Bool → List Nat → PR (List Nd)
  | 0, _, _ => .out
  | n + 1, ins, r => pNodes (pNode ins (pMsg n)) (r.length + 1) [] r
def pParse (n : Nat) (r : List Nat) : PR (List Nd) := (pMsg n false r).bind fun m z => if z = [] then .ok (plA [] m) [] else .tok z.length

end
section
open PySem L2 DL
/-! ### the walks of the reader, one by one -/
def pp (t : Str) (r : List Nat) : Nat := t.length - r.length
abbrev Suf (t : Str) (r : List Nat) : Prop := r <:+ t.cps.toList
def tokX (i : Nat) : Exn := ⟨1, ["place"], [.int (i : Int)]⟩
def finX : Exn := ⟨2, [], []⟩
def Ans (A : List D) (t : Str) (b : Bool) {α : Type} (enc : α → D) (res : Res D) : PR α → Prop
  | .ok a r => res = .ok (enc a) (A ++ [rd t (pp t r) b]) ∧ Suf t r
  | .tok k => ∃ p b', res = .exc (tokX (t.length - k)) (A ++ [rd t p b'])
  | .fin => ∃ p b', res = .exc finX (A ++ [rd t p b'])
  | .out => True
def eU : Unit → D := fun _ => .non
def eW (t : Str) (x : Str × Nat) : D := .tup [.str x.1, .int ((t.length - x.2 : Nat) : Int)]
def eNat (i : Nat) : D := .int (i : Int)
def eKB (t : Str) (x : Ky × Nat) : D := .tup [eK x.1, .int ((t.length - x.2 : Nat) : Int)]
section
variable {A : List D} {t : Str} {r : List Nat} {b : Bool}
theorem Suf.len (h : Suf t r) : r.length ≤ t.length := by
  have := h.length_le
  rw [len_cps] at this; exact this
theorem Suf.eq (h : Suf t r) : t.cps.toList.drop (pp t r) = r := by
  have := List.suffix_iff_eq_drop.mp h
  rw [len_cps] at this
  exact this.symm
theorem Suf.get (h : Suf t r) (j : Nat) : cAt t (pp t r + j) = r[j]? := by
  unfold cAt
  rw [← List.getElem?_drop, h.eq]
theorem Suf.get0 (h : Suf t r) : cAt t (pp t r) = r[0]? := h.get 0
theorem Suf.tail {c : Nat} (h : Suf t (c :: r)) : Suf t r := (List.suffix_cons c r).trans h
theorem Suf.drop (h : Suf t r) (k : Nat) : Suf t (r.drop k) := (List.drop_suffix k r).trans h
theorem Suf.dw (h : Suf t r) (f : Nat → Bool) : Suf t (r.dropWhile f) := (List.dropWhile_suffix f).trans h
theorem pp_cons {c : Nat} (h : Suf t (c :: r)) : pp t (c :: r) + 1 = pp t r := by
  have := h.len
  unfold pp
  rw [List.length_cons] at this ⊢
  omega
theorem pp_drop (h : Suf t r) {k : Nat} (hk : k ≤ r.length) : pp t r + k = pp t (r.drop k) := by
  have := h.len
  unfold pp
  rw [List.length_drop]
  omega
theorem tw_dw (f : Nat → Bool) (r : List Nat) : (r.takeWhile f).length + (r.dropWhile f).length = r.length := by
  have := congrArg List.length (List.takeWhile_append_dropWhile (p := f) (l := r))
  rw [List.length_append] at this; exact this
theorem pp_dw (h : Suf t r) (f : Nat → Bool) : pp t r + (r.takeWhile f).length = pp t (r.dropWhile f) := by
  have := h.len
  have := tw_dw f r
  unfold pp
  omega
theorem pp_le : pp t r ≤ t.length := Nat.sub_le _ _
theorem get_twl (f : Nat → Bool) (r : List Nat) {j : Nat} (h : j < (r.takeWhile f).length) : r[j]? = (r.takeWhile f)[j]? := by
  have e := List.takeWhile_append_dropWhile (p := f) (l := r)
  have q : (r.takeWhile f ++ r.dropWhile f)[j]? = (r.takeWhile f)[j]? := List.getElem?_append_left h
  rw [e] at q; exact q
theorem get_tw (f : Nat → Bool) (r : List Nat) : r[(r.takeWhile f).length]? = (r.dropWhile f)[0]? := by
  have e := List.takeWhile_append_dropWhile (p := f) (l := r)
  have q : (r.takeWhile f ++ r.dropWhile f)[(r.takeWhile f).length]? = (r.dropWhile f)[0]? := by rw [List.getElem?_append_right (Nat.le_refl _), Nat.sub_self]
  rw [e] at q; exact q
theorem head_dw {f : Nat → Bool} {r z : List Nat} {d : Nat} (q : r.dropWhile f = d :: z) : f d = false := by
  induction r with
  | nil => cases q
  | cons c r ih =>
    rw [List.dropWhile_cons] at q
    by_cases h : f c = true
    · rw [if_pos h] at q; exact ih q
    · rw [if_neg h] at q; cases q; exact Bool.eq_false_iff.mpr h
theorem sh_nat {i : Nat} (h : i ≤ 1000000) : shOk (.int (i : Int)) = true := by
  show decide ((i : Int).natAbs.log2 < 1920) = true
  refine decide_eq_true ?_
  rw [Int.natAbs_natCast]
  by_cases z : i = 0
  · subst z; decide
  · exact (Nat.log2_lt z).mpr (Nat.lt_of_le_of_lt h (by decide))
theorem row_suf (w : Str) (h : Suf t r) : Row t w (pp t r) (r.takeWhile (inW w)).length where
  ins := fun j hj => by
    rw [h.get j]
    have e := get_twl (inW w) r hj
    rw [e, List.getElem?_eq_getElem hj]
    refine ⟨_, rfl, ?_⟩
    have := List.all_eq_true.mp (List.all_takeWhile (p := inW w) (l := r)) _ (List.getElem_mem hj)
    exact of_decide_eq_true this
  out := fun c hc => by
    rw [h.get] at hc
    rw [get_tw] at hc
    cases q : r.dropWhile (inW w) with
    | nil => rw [q] at hc; cases hc
    | cons d z =>
      rw [q] at hc
      cases hc
      have := head_dw q
      intro m
      unfold inW at this
      rw [decide_eq_true m] at this
      cases this
theorem sh_pp (hl : t.length < 900000) (r : List Nat) : shOk (.int ((pp t r : Nat) : Int)) = true := sh_nat (by have := pp_le (t := t) (r := r); omega)
theorem sz_of (hl : t.length < 900000) : t.length ≤ sizeLine := Nat.le_trans (Nat.le_of_lt hl) (by decide)
theorem tw_lt (hl : t.length < 900000) (h : Suf t r) (f : Nat → Bool) : (r.takeWhile f).length < 1000000 := by
  have := h.len
  have := tw_dw f r
  omega
theorem w_skip (n : Nat) (hl : t.length < 900000) (h : Suf t r) : run (n + 1) 58 [.ptr A.length] (A ++ [rd t (pp t r) b]) = .ok .non (A ++ [rd t (pp t (pSkip r)) b]) := by
  rw [run_skip n (sz_of hl) (tw_lt hl h _) (row_suf spW h), pp_dw h]; rfl
theorem suf_skip (h : Suf t r) : Suf t (pSkip r) := h.dw _
theorem w_sign0 (n : Nat) (hl : t.length < 900000) : run (n + 1) 57 [.ptr A.length] (A ++ [rd t (pp t []) b]) = .exc finX (A ++ [rd t (pp t []) b]) := by
  rw [run_57]
  have a1 := at_text (A := A) (t := t) (p := pp t []) (b := b) 0 (Γ := [.val (.ptr A.length)]) rfl
  have a2 := at_place (A := A) (t := t) (p := pp t []) (b := b) 0 (Γ := [.val (.ptr A.length)]) rfl
  have i2 := dLen_s (sz_of hl)
  have hn : (t.length : Int) ≤ (pp t [] : Int) := by unfold pp; simp
  generalize pp t [] = q at *
  simp [-x_eAtt, B_57, a1, a2, i2, hn, finX]
theorem w_sign {c : Nat} (n : Nat) (hl : t.length < 900000) (h : Suf t (c :: r)) : run (n + 1) 57 [.ptr A.length] (A ++ [rd t (pp t (c :: r)) b]) = .ok (.str (sg c)) (A ++ [rd t (pp t (c :: r)) b]) :=
  run_sign n (sz_of hl) (by rw [h.get0]; rfl)
theorem sg_ne {c d : Nat} : (sg c == sg d) = decide (c = d) := by
  by_cases h : c = d
  · rw [h, decide_eq_true rfl]; exact beq_self_eq_true _
  · rw [decide_eq_false h]
    cases e : sg c == sg d with
    | false => rfl
    | true =>
      exfalso
      have e2 : sg c = sg d := eq_of_beq e
      have e3 : (sg c).cps.toList = (sg d).cps.toList := by rw [e2]
      exact h (List.cons.inj e3).1
theorem w_expect (n c : Nat) (hl : t.length < 900000) (h : Suf t r) : Ans A t b eU (run (n + 2) 59 [.ptr A.length, .str (sg c)] (A ++ [rd t (pp t r) b])) (pExpect c r) := by
  rw [run_59]
  have r1 := w_skip (A := A) (b := b) n hl h
  have m1 := meth_rd (A := A) (t := t) (p := pp t r) (b := b) 0 (Γ := [.val (.ptr A.length), .val (.str (sg c))]) (F := run (n + 1) 58) (α := aNil) rfl nm_skip
  have m2 := meth_rd (A := A) (t := t) (p := pp t (pSkip r)) (b := b) 0 (Γ := [.val (.ptr A.length), .val (.str (sg c))]) (F := run (n + 1) 57) (α := aNil) rfl nm_sign
  have hs := suf_skip h
  unfold pExpect
  cases q : pSkip r with
  | nil =>
    rw [q] at r1 m2
    have r2 := w_sign0 (A := A) (b := b) n hl
    refine ⟨pp t [], b, ?_⟩
    simp [-x_eMeth, -x_sAttA, B_59, m1, r1, m2, r2]
  | cons d z =>
    rw [q] at r1 m2 hs
    have r2 := w_sign (A := A) (b := b) n hl hs
    have a2 := at_place (A := A) (t := t) (p := pp t (d :: z)) (b := b) 0 (Γ := [.val (.ptr A.length), .val (.str (sg c))]) rfl
    have ad := add_place (A := A) (t := t) (p := pp t (d :: z)) (b := b) 0 (Γ := [.val (.ptr A.length), .val (.str (sg c))]) rfl (e := eC (.int 1)) (k := 1) (fun _ => rfl)
    have ne := sg_ne (c := d) (d := c)
    rw [pp_cons hs] at ad
    have sh := sh_pp hl (d :: z)
    show Ans A t b eU _ (if d = c then .ok () z else .tok (z.length + 1))
    by_cases e : d = c
    · subst e
      rw [if_pos rfl]
      rw [decide_eq_true rfl] at ne
      refine ⟨?_, hs.tail⟩
      simp [-x_eMeth, -x_sAttA, -x_eAtt, B_59, m1, r1, m2, r2, ad, eU]
    · rw [if_neg e]
      rw [decide_eq_false e] at ne
      refine ⟨pp t (d :: z), b, ?_⟩
      unfold tokX
      rw [show ((t.length - (z.length + 1) : Nat) : Int) = ((pp t (d :: z) : Nat) : Int) from rfl]
      generalize ((pp t (d :: z) : Nat) : Int) = i1 at *
      simp [-x_eMeth, -x_sAttA, -x_eAtt, B_59, m1, r1, m2, r2, a2, ne, sh]
end

end
section
open PySem L2 DL
/-! ### rows, words, numbers, keys -/
section
variable {A : List D} {t : Str} {r : List Nat} {b : Bool}
theorem len_mkS (x : List Nat) : (mkS x).length = x.length := by
  show x.toArray.size = x.length
  simp
theorem cps_mkS (x : List Nat) : (mkS x).cps.toList = x := rfl
theorem mkS_nil (x : List Nat) : (mkS x == ("" : Str)) = decide (x = []) := by
  by_cases h : x = []
  · subst h; decide +kernel
  · rw [decide_eq_false h]
    cases e : mkS x == ("" : Str) with
    | false => rfl
    | true =>
      exfalso
      have e2 : mkS x = ("" : Str) := eq_of_beq e
      have e3 : (mkS x).cps.toList = (("" : Str)).cps.toList := by rw [e2]
      exact h e3
theorem at_tw (h : Suf t r) (f : Nat → Bool) : At t (pp t r) (mkS (r.takeWhile f)) := by
  unfold At
  rw [h.eq, len_mkS, cps_mkS]
  conv => lhs; rw [← List.takeWhile_append_dropWhile (p := f) (l := r)]
  rw [List.takeWhile_append_dropWhile]
  conv => lhs; arg 2; rw [← List.takeWhile_append_dropWhile (p := f) (l := r)]
  rw [List.take_left']
  rfl
theorem cut_tw (h : Suf t r) (f : Nat → Bool) : cutS t (some ((pp t r : Nat) : Int)) (some ((pp t (r.dropWhile f) : Nat) : Int)) = mkS (r.takeWhile f) := by
  have := cut_at (at_tw h f) pp_le
  rw [len_mkS, pp_dw h] at this
  exact this
theorem w_run (n : Nat) (w : Str) (hl : t.length < 900000) (h : Suf t r) :
    run (n + 2) 60 [.ptr A.length, .str w] (A ++ [rd t (pp t r) b]) = .ok (.tup [.str (mkS ((pSkip r).takeWhile (inW w))), .int ((pp t (pSkip r) : Nat) : Int)]) (A ++ [rd t (pp t ((pSkip r).dropWhile (inW w))) b]) := by
  have hs := suf_skip h
  have e1 : pp t r + (r.takeWhile (inW spW)).length = pp t (pSkip r) := pp_dw h _
  have := run_run (A := A) (b := b) n (sz_of hl) (tw_lt hl h _) (tw_lt hl hs (inW w)) (row_suf spW h) (by rw [e1]; exact row_suf w hs)
  rw [e1, pp_dw hs] at this
  rw [this, cut_tw hs]
theorem tw_le (hl : t.length < 900000) (h : Suf t r) (f : Nat → Bool) : dLen (.str (mkS (r.takeWhile f))) = some (.int (r.takeWhile f).length) := by
  have := dLen_s (t := mkS (r.takeWhile f)) (by rw [len_mkS]; exact Nat.le_trans (Nat.le_of_lt (tw_lt hl h f)) (by decide))
  rw [this, len_mkS]
theorem dw_nil {f : Nat → Bool} (h : r.takeWhile f = []) : r.dropWhile f = r := by
  have := List.takeWhile_append_dropWhile (p := f) (l := r)
  rw [h] at this; exact this
theorem w_word (n : Nat) (hl : t.length < 900000) (h : Suf t r) : Ans A t b (eW t) (run (n + 3) 61 [.ptr A.length] (A ++ [rd t (pp t r) b])) (pWord r) := by
  rw [run_61]
  have r1 := w_run (A := A) (b := b) n LT hl h
  have hs := suf_skip h
  have m1 := meth_rd (A := A) (t := t) (p := pp t r) (b := b) 0 (Γ := [.val (.ptr A.length), .non, .non]) (F := run (n + 2) 60) (α := aCons (eC (.str LT)) aNil) rfl nm_run
  unfold pWord
  generalize pSkip r = q at *
  have e := mkS_nil (q.takeWhile (inW LT))
  have sx := tw_le hl hs (inW LT)
  have pe : ((pp t q : Nat) : Int) = ((t.length - q.length : Nat) : Int) := rfl
  have sh := sh_pp hl q
  by_cases c : q.takeWhile (inW LT) = []
  · rw [if_pos c]
    rw [decide_eq_true c] at e
    have dn := dw_nil c
    have m2 := meth_rd (A := A) (t := t) (p := pp t q) (b := b) 0 (Γ := [.val (.ptr A.length), .val (.str (mkS (q.takeWhile (inW LT)))), .val (.int ((pp t q : Nat) : Int))]) (F := run (n + 2) 57) (α := aNil) rfl nm_sign
    rw [dn] at r1
    cases q with
    | nil =>
      rw [if_pos rfl]
      have r2 := w_sign0 (A := A) (b := b) (n + 1) hl
      replace r2 : run (n + 2) 57 [.ptr A.length] (A ++ [rd t (pp t []) b]) = _ := r2
      refine ⟨pp t [], b, ?_⟩
      rw [c] at r1 m2 e
      generalize ((pp t [] : Nat) : Int) = i1 at *
      generalize mkS [] = x at *
      unfold LT at m1 r1
      simp [-x_eMeth, B_61, m1, r1, e, m2, r2]
    | cons d z =>
      rw [if_neg (List.cons_ne_nil _ _)]
      have r2 := w_sign (A := A) (b := b) (n + 1) hl hs
      replace r2 : run (n + 2) 57 [.ptr A.length] (A ++ [rd t (pp t (d :: z)) b]) = _ := r2
      refine ⟨pp t (d :: z), b, ?_⟩
      rw [c] at sx
      have c1 : ¬ (1 : Int) ≤ (([] : List Nat).length : Int) := by decide
      rw [c] at r1 m2 e
      unfold tokX
      rw [← pe]
      generalize ((pp t (d :: z) : Nat) : Int) = i1 at *
      generalize mkS [] = x at *
      unfold LT at m1 r1
      simp [-x_eMeth, B_61, m1, r1, e, m2, r2, sx, c1, sh]
  · rw [if_neg c]
    rw [decide_eq_false c] at e
    have c1 : (1 : Int) ≤ ((q.takeWhile (inW LT)).length : Int) := by
      have : (q.takeWhile (inW LT)).length ≠ 0 := fun z => c (List.eq_nil_of_length_eq_zero z)
      omega
    by_cases c8 : (q.takeWhile (inW LT)).length ≤ 8
    · rw [if_pos c8]
      refine ⟨?_, hs.dw _⟩
      have c2 : ((q.takeWhile (inW LT)).length : Int) ≤ 8 := by omega
      unfold eW
      rw [← pe]
      generalize (List.takeWhile (inW LT) q) = x at *
      generalize (List.dropWhile (inW LT) q) = y at *
      generalize ((pp t q : Nat) : Int) = i1 at *
      unfold LT at m1 r1
      simp [-x_eMeth, B_61, m1, r1, e, sx, c1, c2]
    · rw [if_neg c8]
      have c2 : ¬ ((q.takeWhile (inW LT)).length : Int) ≤ 8 := by omega
      refine ⟨pp t (q.dropWhile (inW LT)), b, ?_⟩
      unfold tokX
      rw [← pe]
      generalize (List.takeWhile (inW LT) q) = x at *
      generalize (List.dropWhile (inW LT) q) = y at *
      generalize ((pp t q : Nat) : Int) = i1 at *
      unfold LT at m1 r1
      simp [-x_eMeth, B_61, m1, r1, e, sx, c1, c2, sh]
/-! numbers of up to three figures -/
def dgOk (x : List Nat) : Bool := decide (PySem.intText? (mkS x) = some (nmV x : Int))
theorem dg_all : (List.range 10).all (fun a => dgOk [48 + a] && (List.range 10).all fun c => dgOk [48 + a, 48 + c] && (List.range 10).all fun d => dgOk [48 + a, 48 + c, 48 + d]) = true := by decide +kernel
theorem inFG {c : Nat} (h : inW FG c = true) : ∃ a, a < 10 ∧ c = 48 + a := by
  have h1 : c ∈ FG.cps.toList := of_decide_eq_true h
  have e : FG.cps.toList = [48, 49, 50, 51, 52, 53, 54, 55, 56, 57] := by decide +kernel
  rw [e] at h1
  simp at h1
  exact ⟨c - 48, by omega, by omega⟩
theorem dg_it {x : List Nat} (h : ∀ c ∈ x, inW FG c = true) (h0 : x ≠ []) (h3 : x.length ≤ 3) : PySem.intText? (mkS x) = some (nmV x : Int) := by
  have al := List.all_eq_true.mp dg_all
  rcases x with _ | ⟨a, _ | ⟨c, _ | ⟨d, _ | ⟨z, y⟩⟩⟩⟩
  · exact absurd rfl h0
  · obtain ⟨a, ha, rfl⟩ := inFG (h _ List.mem_cons_self)
    have := al a (List.mem_range.mpr ha)
    exact of_decide_eq_true (Bool.and_eq_true _ _ ▸ this : _ ∧ _).1
  · obtain ⟨a, ha, rfl⟩ := inFG (h _ List.mem_cons_self)
    obtain ⟨c, hc, rfl⟩ := inFG (h _ (List.mem_cons_of_mem _ List.mem_cons_self))
    have := al a (List.mem_range.mpr ha)
    have := List.all_eq_true.mp (Bool.and_eq_true _ _ ▸ this : _ ∧ _).2 c (List.mem_range.mpr hc)
    exact of_decide_eq_true (Bool.and_eq_true _ _ ▸ this : _ ∧ _).1
  · obtain ⟨a, ha, rfl⟩ := inFG (h _ List.mem_cons_self)
    obtain ⟨c, hc, rfl⟩ := inFG (h _ (List.mem_cons_of_mem _ List.mem_cons_self))
    obtain ⟨d, hd, rfl⟩ := inFG (h _ (List.mem_cons_of_mem _ (List.mem_cons_of_mem _ List.mem_cons_self)))
    have := al a (List.mem_range.mpr ha)
    have := List.all_eq_true.mp (Bool.and_eq_true _ _ ▸ this : _ ∧ _).2 c (List.mem_range.mpr hc)
    have := List.all_eq_true.mp (Bool.and_eq_true _ _ ▸ this : _ ∧ _).2 d (List.mem_range.mpr hd)
    exact of_decide_eq_true this
  · simp at h3
theorem mkS_0 (x : List Nat) : (mkS x == ("0" : Str)) = decide (x = [48]) := by
  by_cases h : x = [48]
  · subst h; decide +kernel
  · rw [decide_eq_false h]
    cases e : mkS x == ("0" : Str) with
    | false => rfl
    | true =>
      exfalso
      have e2 : mkS x = ("0" : Str) := eq_of_beq e
      have e3 : (mkS x).cps.toList = (("0" : Str)).cps.toList := by rw [e2]
      have e4 : (("0" : Str)).cps.toList = [48] := by decide +kernel
      rw [e4] at e3
      exact h e3
theorem w_nat (n m : Nat) (hl : t.length < 900000) (h : Suf t r) (hm : m ≤ 999) : Ans A t b eNat (run (n + 2) 62 [.ptr A.length, .int m] (A ++ [rd t (pp t r) b])) (pNat m r) := by
  rw [show n + 2 = (n + 1) + 1 from rfl, run_62]
  have lp := row_loop (A := A) (b := b) (w := FG) (Γ := [.val (.ptr A.length), .val (.int m), .val (.int ((pp t r : Nat) : Int)), .non]) (e := eC (.str FG)) (τ := T_62_2 (run (n + 1))) (β := L_62_1 (run (n + 1))) 0 rfl (fun _ => rfl) (sz_of hl) (tw_lt hl h (inW FG)) rfl rfl (row_suf FG h)
  rw [pp_dw h] at lp
  have a2 := at_place (A := A) (t := t) (p := pp t r) (b := b) 0 (Γ := [.val (.ptr A.length), .val (.int m), .non, .non]) rfl
  have a3 := at_place (A := A) (t := t) (p := pp t (r.dropWhile (inW FG))) (b := b) 0 (Γ := [.val (.ptr A.length), .val (.int m), .val (.int ((pp t r : Nat) : Int)), .non]) rfl
  have a4 := at_text (A := A) (t := t) (p := pp t (r.dropWhile (inW FG))) (b := b) 0 (Γ := [.val (.ptr A.length), .val (.int m), .val (.int ((pp t r : Nat) : Int)), .non]) rfl
  have dc := dCut_s (sz_of hl) (some ((pp t r : Nat) : Int)) (some ((pp t (r.dropWhile (inW FG)) : Nat) : Int))
  rw [cut_tw h] at dc
  have e := mkS_nil (r.takeWhile (inW FG))
  have sx := tw_le hl h (inW FG)
  have pe : ((pp t r : Nat) : Int) = ((t.length - r.length : Nat) : Int) := rfl
  have sh := sh_pp hl r
  have fg : ∀ c ∈ r.takeWhile (inW FG), inW FG c = true := fun c hc => List.all_eq_true.mp (List.all_takeWhile (p := inW FG) (l := r)) c hc
  unfold pNat
  by_cases c : r.takeWhile (inW FG) = []
  · rw [if_pos c]
    have dn := dw_nil c
    rw [dn] at lp a3 a4 dc
    rw [c] at e dc
    rw [decide_eq_true rfl] at e
    have m2 := meth_rd (A := A) (t := t) (p := pp t r) (b := b) 0 (Γ := [.val (.ptr A.length), .val (.int m), .val (.int ((pp t r : Nat) : Int)), .val (.str (mkS []))]) (F := run (n + 1) 57) (α := aNil) rfl nm_sign
    cases r with
    | nil =>
      rw [if_pos rfl]
      have r2 := w_sign0 (A := A) (b := b) n hl
      refine ⟨pp t [], b, ?_⟩
      generalize ((pp t [] : Nat) : Int) = i1 at *
      generalize mkS [] = x at *
      simp [-x_eMeth, -x_eAtt, B_62, sh, a2, lp, a3, a4, dc, e, m2, r2]
    | cons d z =>
      rw [if_neg (List.cons_ne_nil _ _)]
      have r2 := w_sign (A := A) (b := b) n hl h
      refine ⟨pp t (d :: z), b, ?_⟩
      unfold tokX
      rw [← pe]
      generalize ((pp t (d :: z) : Nat) : Int) = i1 at *
      generalize mkS [] = x at *
      simp [-x_eMeth, -x_eAtt, B_62, sh, a2, lp, a3, a4, dc, e, m2, r2]
  · rw [if_neg c]
    rw [decide_eq_false c] at e
    have szl : (mkS (r.takeWhile (inW FG))).length ≤ sizeLine := by rw [len_mkS]; exact Nat.le_trans (Nat.le_of_lt (tw_lt hl h _)) (by decide)
    have tl := tw_lt hl h (inW FG)
    have m0 := mkS_0 (r.takeWhile (inW FG))
    generalize r.takeWhile (inW FG) = x at *
    obtain ⟨d, y, rfl⟩ : ∃ d y, x = d :: y := by
      cases x with
      | nil => exact absurd rfl c
      | cons d y => exact ⟨d, y, rfl⟩
    have ix : dIdx (.str (mkS (d :: y))) (.int 0) = some (.str (sg d)) := dIdx_s (p := 0) szl (by unfold cAt; rw [cps_mkS]; rfl)
    have s0 := sg_0 d
    by_cases c3 : (d :: y).length ≤ 3
    · have n3 : ¬ (3 : Int) < ((d :: y).length : Int) := by omega
      have it := dg_it fg c c3
      have di : dInt (.str (mkS (d :: y))) = some (.int (nmV (d :: y))) := by
        unfold dInt
        simp only [it]
        exact if_pos (by rw [len_mkS]; omega)
      by_cases cz : d = 48
      · rw [decide_eq_true cz] at s0
        by_cases c0 : d :: y = [48]
        · rw [decide_eq_true c0] at m0
          by_cases cm : nmV (d :: y) ≤ m
          · rw [if_pos ⟨c3, fun _ => c0, cm⟩]
            refine ⟨?_, h.dw _⟩
            have nm : ¬ (m : Int) < (nmV (d :: y) : Int) := by omega
            unfold eNat
            generalize ((pp t (r.dropWhile (inW FG)) : Nat) : Int) = i2 at *
            generalize ((pp t r : Nat) : Int) = i1 at *
            generalize nmV (d :: y) = v at *
            generalize mkS (d :: y) = x at *
            generalize ((d :: y).length : Int) = ln at *
            simp [-x_eMeth, -x_eAtt, B_62, sh, a2, lp, a3, a4, dc, e, sx, ix, s0, m0, di, n3, nm]
          · rw [if_neg (fun z => cm z.2.2)]
            have nm : (m : Int) < (nmV (d :: y) : Int) := by omega
            refine ⟨pp t (r.dropWhile (inW FG)), b, ?_⟩
            unfold tokX
            rw [← pe]
            generalize ((pp t (r.dropWhile (inW FG)) : Nat) : Int) = i2 at *
            generalize ((pp t r : Nat) : Int) = i1 at *
            generalize nmV (d :: y) = v at *
            generalize mkS (d :: y) = x at *
            generalize ((d :: y).length : Int) = ln at *
            simp [-x_eMeth, -x_eAtt, B_62, sh, a2, lp, a3, a4, dc, e, sx, ix, s0, m0, di, n3, nm]
        · rw [decide_eq_false c0] at m0
          rw [if_neg (fun z => c0 (z.2.1 (by rw [cz]; rfl)))]
          refine ⟨pp t (r.dropWhile (inW FG)), b, ?_⟩
          unfold tokX
          rw [← pe]
          generalize ((pp t (r.dropWhile (inW FG)) : Nat) : Int) = i2 at *
          generalize ((pp t r : Nat) : Int) = i1 at *
          generalize nmV (d :: y) = v at *
          generalize mkS (d :: y) = x at *
          generalize ((d :: y).length : Int) = ln at *
          simp [-x_eMeth, -x_eAtt, B_62, sh, a2, lp, a3, a4, dc, e, sx, ix, s0, m0, di, n3]
      · rw [decide_eq_false cz] at s0
        have hh : (d :: y).head? = some 48 → d :: y = [48] := fun z => absurd (Option.some.inj z) cz
        by_cases cm : nmV (d :: y) ≤ m
        · rw [if_pos ⟨c3, hh, cm⟩]
          refine ⟨?_, h.dw _⟩
          have nm : ¬ (m : Int) < (nmV (d :: y) : Int) := by omega
          unfold eNat
          generalize ((pp t (r.dropWhile (inW FG)) : Nat) : Int) = i2 at *
          generalize ((pp t r : Nat) : Int) = i1 at *
          generalize nmV (d :: y) = v at *
          generalize mkS (d :: y) = x at *
          generalize ((d :: y).length : Int) = ln at *
          simp [-x_eMeth, -x_eAtt, B_62, sh, a2, lp, a3, a4, dc, e, sx, ix, s0, di, n3, nm]
        · rw [if_neg (fun z => cm z.2.2)]
          have nm : (m : Int) < (nmV (d :: y) : Int) := by omega
          refine ⟨pp t (r.dropWhile (inW FG)), b, ?_⟩
          unfold tokX
          rw [← pe]
          generalize ((pp t (r.dropWhile (inW FG)) : Nat) : Int) = i2 at *
          generalize ((pp t r : Nat) : Int) = i1 at *
          generalize nmV (d :: y) = v at *
          generalize mkS (d :: y) = x at *
          generalize ((d :: y).length : Int) = ln at *
          simp [-x_eMeth, -x_eAtt, B_62, sh, a2, lp, a3, a4, dc, e, sx, ix, s0, di, n3, nm]
    · rw [if_neg (fun z => c3 z.1)]
      have n3 : (3 : Int) < ((d :: y).length : Int) := by omega
      refine ⟨pp t (r.dropWhile (inW FG)), b, ?_⟩
      unfold tokX
      rw [← pe]
      generalize ((pp t (r.dropWhile (inW FG)) : Nat) : Int) = i2 at *
      generalize ((pp t r : Nat) : Int) = i1 at *
      generalize mkS (d :: y) = x at *
      generalize ((d :: y).length : Int) = ln at *
      simp [-x_eMeth, -x_eAtt, B_62, sh, a2, lp, a3, a4, dc, e, sx, n3]
end

end
section
open PySem L2 DL
/-! ### offset, key, escape -/
def kd (plu : Bool) : Str := if plu = true then "plural" else "select"
theorem at_pre {t : Str} {r : List Nat} (h : Suf t r) (x : Str) : At t (pp t r) x ↔ x.cps.toList.isPrefixOf r = true := by
  unfold At
  rw [h.eq, List.isPrefixOf_iff_prefix, List.prefix_iff_eq_take, len_cps]
  exact ⟨fun h => h.symm, fun h => h.symm⟩
theorem pre_len {x : Str} {r : List Nat} (h : x.cps.toList.isPrefixOf r = true) : x.length ≤ r.length := by
  have := (List.isPrefixOf_iff_prefix.mp h).length_le
  rw [len_cps] at this; exact this
section
variable {A : List D} {t : Str} {r : List Nat} {b : Bool}
theorem s3_pre (h : Suf t r) (x : Str) : Txt.startswith3 t x ((pp t r : Nat) : Int) = x.cps.toList.isPrefixOf r := by
  have e := beg_at (x := x) (pp_le (t := t) (r := r))
  rw [at_pre h] at e
  cases q : x.cps.toList.isPrefixOf r with
  | true => exact e.mpr q
  | false =>
    cases z : Txt.startswith3 t x ((pp t r : Nat) : Int) with
    | false => rfl
    | true => rw [e.mp z] at q; cases q
theorem OF_len : OF.length = 7 := by decide +kernel
theorem w_off (n : Nat) (hl : t.length < 900000) (h : Suf t r) : Ans A t b eNat (run (n + 3) 63 [.ptr A.length] (A ++ [rd t (pp t r) b])) (pOff r) := by
  rw [run_63]
  have r1 := w_skip (A := A) (b := b) (n + 1) hl h
  have hs := suf_skip h
  have m1 := meth_rd (A := A) (t := t) (p := pp t r) (b := b) 0 (Γ := [.val (.ptr A.length)]) (F := run (n + 2) 58) (α := aNil) rfl nm_skip
  unfold pOff
  generalize pSkip r = q at *
  have a2 := at_place (A := A) (t := t) (p := pp t q) (b := b) 0 (Γ := [.val (.ptr A.length)]) rfl
  have a3 := at_text (A := A) (t := t) (p := pp t q) (b := b) 0 (Γ := [.val (.ptr A.length)]) rfl
  have s3 := s3_pre hs OF
  replace r1 : run (n + 2) 58 [.ptr A.length] (A ++ [rd t (pp t r) b]) = _ := r1
  cases c : OF.cps.toList.isPrefixOf q with
  | false =>
    rw [if_neg (by decide)]
    rw [c] at s3
    refine ⟨?_, hs⟩
    unfold OF at s3
    generalize ((pp t q : Nat) : Int) = i1 at *
    simp [-x_eMeth, -x_eAtt, B_63, m1, r1, a2, a3, s3, eNat]
  | true =>
    rw [if_pos rfl]
    rw [c] at s3
    have le := pre_len c
    rw [OF_len] at le
    have hd := hs.drop 7
    have m2 := meth_rd (A := A) (t := t) (p := pp t (q.drop 7)) (b := b) 0 (Γ := [.val (.ptr A.length)]) (F := run (n + 2) 62) (α := aCons (eC (.int 9)) aNil) rfl nm_nat
    have sx : dLen (.str ("offset:" : Str)) = some (.int 7) := by
      show (if ("offset:" : Str).length ≤ sizeLine then some (D.int ("offset:" : Str).length) else none) = _
      rw [show ("offset:" : Str).length = 7 from OF_len]; rfl
    have ad := add_place (A := A) (t := t) (p := pp t q) (b := b) 0 (Γ := [.val (.ptr A.length)]) rfl (e := eUn dLen (eC (.str "offset:"))) (k := 7) (fun S => by simp [sx])
    rw [pp_drop hs le] at ad
    have r2 := w_nat (A := A) (b := b) n 9 hl hd (by decide)
    replace r2 : Ans A t b eNat (run (n + 2) 62 [.ptr A.length, .int 9] (A ++ [rd t (pp t (q.drop 7)) b])) (pNat 9 (q.drop 7)) := r2
    unfold OF at s3
    generalize ((pp t q : Nat) : Int) = i1 at *
    cases z : pNat 9 (q.drop 7) with
    | ok i y =>
      rw [z] at r2
      obtain ⟨r2, hy⟩ := r2
      refine ⟨?_, hy⟩
      simp [-x_eMeth, -x_eAtt, -x_sAttA, B_63, m1, r1, a2, a3, s3, ad, m2, r2]
    | tok k =>
      rw [z] at r2
      obtain ⟨p, b', r2⟩ := r2
      refine ⟨p, b', ?_⟩
      simp [-x_eMeth, -x_eAtt, -x_sAttA, B_63, m1, r1, a2, a3, s3, ad, m2, r2]
    | fin =>
      rw [z] at r2
      obtain ⟨p, b', r2⟩ := r2
      refine ⟨p, b', ?_⟩
      simp [-x_eMeth, -x_eAtt, -x_sAttA, B_63, m1, r1, a2, a3, s3, ad, m2, r2]
    | out => trivial
theorem q_eq : ("=" : Str) = sg 61 := by decide +kernel
theorem q_ob : ("{" : Str) = sg 123 := by decide +kernel
theorem q_cb : ("}" : Str) = sg 125 := by decide +kernel
theorem q_ap : ("'" : Str) = sg 39 := by decide +kernel
theorem q_nu : ("#" : Str) = sg 35 := by decide +kernel
theorem q_co : ("," : Str) = sg 44 := by decide +kernel
theorem s_sp : (("select" : Str) == "plural") = false := by decide +kernel
theorem nm_word : (["text", "place", "inside"] : List Str).contains "word" = false := by decide +kernel
theorem inF_strs (w : Str) (zs : List Str) : inF (.str w) (zs.map D.str) = decide (w ∈ zs) := by
  unfold inF
  induction zs with
  | nil => rfl
  | cons z zs ih =>
    rw [List.map_cons, List.any_cons, ih]
    show (decide (z = w) || decide (w ∈ zs)) = decide (w ∈ z :: zs)
    by_cases e : z = w
    · rw [e, decide_eq_true rfl, decide_eq_true List.mem_cons_self]; rfl
    · rw [decide_eq_false e, Bool.false_or]
      by_cases m : w ∈ zs
      · rw [decide_eq_true m, decide_eq_true (List.mem_cons_of_mem _ m)]
      · rw [decide_eq_false m, decide_eq_false (fun q => by rcases List.mem_cons.mp q with q | q; exact e q.symm; exact m q)]
theorem flat_strs (zs : List Str) : (zs.map D.str).all flatD = true := by
  induction zs with
  | nil => rfl
  | cons z zs ih => rw [List.map_cons, List.all_cons, ih]; rfl
theorem cNotIn_cat (w : Str) : cNotIn (.str w) (.tup [.str "zero", .str "one", .str "two", .str "few", .str "many"]) = some (.bl (!decide (w ∈ catL))) := by
  unfold cNotIn
  have e : ([.str "zero", .str "one", .str "two", .str "few", .str "many"] : List D) = catL.map D.str := rfl
  rw [e]
  show (if flatD (.str w) = true ∧ (catL.map D.str).all flatD = true then some (inF (.str w) (catL.map D.str)) else none).map (fun k => D.bl (!k)) = _
  rw [if_pos ⟨rfl, flat_strs _⟩, inF_strs]; rfl
theorem beq_str (a b : Str) : (a == b) = decide (a = b) := by
  by_cases h : a = b
  · rw [h, decide_eq_true rfl]; exact beq_self_eq_true _
  · rw [decide_eq_false h]
    cases e : a == b with
    | false => rfl
    | true => exact absurd (eq_of_beq e) h
theorem w_key (n : Nat) (plu : Bool) (hl : t.length < 900000) (h : Suf t r) : Ans A t b (eKB t) (run (n + 4) 64 [.ptr A.length, .str (kd plu)] (A ++ [rd t (pp t r) b])) (pKey plu r) := by
  rw [run_64]
  have r1 := w_skip (A := A) (b := b) (n + 2) hl h
  replace r1 : run (n + 3) 58 [.ptr A.length] (A ++ [rd t (pp t r) b]) = _ := r1
  have hs := suf_skip h
  unfold pKey
  generalize pSkip r = q at *
  generalize hk : kd plu = kk
  have m1 := meth_rd (A := A) (t := t) (p := pp t r) (b := b) 0 (Γ := [.val (.ptr A.length), .val (.str kk), .non, .non]) (F := run (n + 3) 58) (α := aNil) rfl nm_skip
  have a2 := at_place (A := A) (t := t) (p := pp t q) (b := b) 0 (Γ := [.val (.ptr A.length), .val (.str kk), .non, .non]) rfl
  have m2 := meth_rd (A := A) (t := t) (p := pp t q) (b := b) 0 (Γ := [.val (.ptr A.length), .val (.str kk), .val (.int ((pp t q : Nat) : Int)), .non]) (F := run (n + 3) 57) (α := aNil) rfl nm_sign
  have m3 := meth_rd (A := A) (t := t) (p := pp t q) (b := b) 0 (Γ := [.val (.ptr A.length), .val (.str kk), .val (.int ((pp t q : Nat) : Int)), .non]) (F := run (n + 3) 61) (α := aNil) rfl nm_word
  have pe : ((pp t q : Nat) : Int) = ((t.length - q.length : Nat) : Int) := rfl
  by_cases c : plu = true ∧ q.head? = some 61
  · rw [if_pos c]
    obtain ⟨rfl, c⟩ := c
    cases q with
    | nil => cases c
    | cons d z =>
      cases c
      have r2 := w_sign (A := A) (b := b) (n + 2) hl hs
      replace r2 : run (n + 3) 57 [.ptr A.length] (A ++ [rd t (pp t (61 :: z)) b]) = _ := r2
      have ad := add_place (A := A) (t := t) (p := pp t (61 :: z)) (b := b) 0 (Γ := [.val (.ptr A.length), .val (.str kk), .val (.int ((pp t (61 :: z) : Nat) : Int)), .non]) rfl (e := eC (.int 1)) (k := 1) (fun _ => rfl)
      rw [pp_cons hs] at ad
      have m4 := meth_rd (A := A) (t := t) (p := pp t z) (b := b) 0 (Γ := [.val (.ptr A.length), .val (.str kk), .val (.int ((pp t (61 :: z) : Nat) : Int)), .non]) (F := run (n + 3) 62) (α := aCons (eC (.int 999)) aNil) rfl nm_nat
      have r3 := w_nat (A := A) (b := b) (n + 1) 999 hl hs.tail (by decide)
      replace r3 : Ans A t b eNat (run (n + 3) 62 [.ptr A.length, .int 999] (A ++ [rd t (pp t z) b])) (pNat 999 z) := r3
      show Ans A t b (eKB t) _ ((pNat 999 z).bind fun i y => .ok (.i i, (61 :: z).length) y)
      rw [← q_eq] at r2
      obtain rfl : kk = ("plural" : Str) := hk.symm
      cases y : pNat 999 z with
      | ok i w =>
        rw [y] at r3
        obtain ⟨r3, hw⟩ := r3
        refine ⟨?_, hw⟩
        show _ = Res.ok (D.tup [.int (i : Int), .int ((t.length - (61 :: z).length : Nat) : Int)]) _
        rw [← pe]
        unfold eNat at r3
        generalize ((pp t (61 :: z) : Nat) : Int) = i1 at *
        simp [-x_eMeth, -x_eAtt, -x_sAttA, B_64, m1, r1, a2, m2, r2, ad, m4, r3]
      | tok k =>
        rw [y] at r3
        obtain ⟨p, b', r3⟩ := r3
        refine ⟨p, b', ?_⟩
        generalize ((pp t (61 :: z) : Nat) : Int) = i1 at *
        simp [-x_eMeth, -x_eAtt, -x_sAttA, B_64, m1, r1, a2, m2, r2, ad, m4, r3]
      | fin =>
        rw [y] at r3
        obtain ⟨p, b', r3⟩ := r3
        refine ⟨p, b', ?_⟩
        generalize ((pp t (61 :: z) : Nat) : Int) = i1 at *
        simp [-x_eMeth, -x_eAtt, -x_sAttA, B_64, m1, r1, a2, m2, r2, ad, m4, r3]
      | out => trivial
  · rw [if_neg c]
    have r3 := w_word (A := A) (b := b) n hl hs
    cases plu with
    | false =>
      obtain rfl : kk = ("select" : Str) := hk.symm
      have ss := s_sp
      cases y : pWord q with
      | ok w z =>
        rw [y] at r3
        obtain ⟨r3, hz⟩ := r3
        rw [PR.bind_ok, if_neg (fun z => by cases z.1)]
        refine ⟨?_, hz⟩
        unfold eW at r3
        show _ = Res.ok (D.tup [.str w.1, .int ((t.length - w.2 : Nat) : Int)]) _
        generalize ((pp t q : Nat) : Int) = i1 at *
        simp [-x_eMeth, -x_eAtt, -x_sAttA, B_64, m1, r1, a2, m3, r3, ss]
      | tok k =>
        rw [y] at r3
        obtain ⟨p, b', r3⟩ := r3
        refine ⟨p, b', ?_⟩
        generalize ((pp t q : Nat) : Int) = i1 at *
        simp [-x_eMeth, -x_eAtt, -x_sAttA, B_64, m1, r1, a2, m3, r3, ss]
      | fin =>
        rw [y] at r3
        obtain ⟨p, b', r3⟩ := r3
        refine ⟨p, b', ?_⟩
        generalize ((pp t q : Nat) : Int) = i1 at *
        simp [-x_eMeth, -x_eAtt, -x_sAttA, B_64, m1, r1, a2, m3, r3, ss]
      | out => trivial
    | true =>
      obtain rfl : kk = ("plural" : Str) := hk.symm
      cases q with
      | nil =>
        have r2 := w_sign0 (A := A) (b := b) (n + 2) hl
        replace r2 : run (n + 3) 57 [.ptr A.length] (A ++ [rd t (pp t []) b]) = _ := r2
        have : pWord [] = .fin := rfl
        rw [this]
        refine ⟨pp t [], b, ?_⟩
        generalize ((pp t [] : Nat) : Int) = i1 at *
        simp [-x_eMeth, -x_eAtt, -x_sAttA, B_64, m1, r1, a2, m2, r2]
      | cons d x =>
        have hd : d ≠ 61 := fun z => c ⟨rfl, by rw [z]; rfl⟩
        have r2 := w_sign (A := A) (b := b) (n + 2) hl hs
        replace r2 : run (n + 3) 57 [.ptr A.length] (A ++ [rd t (pp t (d :: x)) b]) = _ := r2
        have ne := sg_ne (c := d) (d := 61)
        rw [decide_eq_false hd, ← q_eq] at ne
        cases y : pWord (d :: x) with
        | ok w z =>
          rw [y] at r3
          obtain ⟨r3, hz⟩ := r3
          rw [PR.bind_ok]
          unfold eW at r3
          have cc := cNotIn_cat w.1
          have oo := beq_str w.1 "other"
          have a5 := pe
          by_cases c1 : w.1 ∈ catL
          · rw [if_neg (fun z => z.2.1 c1)]
            rw [decide_eq_true c1] at cc
            refine ⟨?_, hz⟩
            show _ = Res.ok (D.tup [.str w.1, .int ((t.length - w.2 : Nat) : Int)]) _
            generalize ((pp t (d :: x) : Nat) : Int) = i1 at *
            generalize ((t.length - w.2 : Nat) : Int) = i2 at *
            simp [-x_eMeth, -x_eAtt, -x_sAttA, B_64, m1, r1, a2, m2, r2, ne, m3, r3, cc]
          · rw [decide_eq_false c1] at cc
            by_cases c2 : w.1 = "other"
            · rw [if_neg (fun z => z.2.2 c2)]
              rw [decide_eq_true c2] at oo
              refine ⟨?_, hz⟩
              show _ = Res.ok (D.tup [.str w.1, .int ((t.length - w.2 : Nat) : Int)]) _
              generalize ((pp t (d :: x) : Nat) : Int) = i1 at *
              generalize ((t.length - w.2 : Nat) : Int) = i2 at *
              simp [-x_eMeth, -x_eAtt, -x_sAttA, B_64, m1, r1, a2, m2, r2, ne, m3, r3, cc, oo]
            · rw [if_pos ⟨rfl, c1, c2⟩]
              rw [decide_eq_false c2] at oo
              refine ⟨pp t z, b, ?_⟩
              unfold tokX
              have sh : shOk (.int ((t.length - w.2 : Nat) : Int)) = true := sh_nat (by omega)
              generalize ((pp t (d :: x) : Nat) : Int) = i1 at *
              generalize ((t.length - w.2 : Nat) : Int) = i2 at *
              simp [-x_eMeth, -x_eAtt, -x_sAttA, B_64, m1, r1, a2, m2, r2, ne, m3, r3, cc, oo, sh]
        | tok k =>
          rw [y] at r3
          obtain ⟨p, b', r3⟩ := r3
          refine ⟨p, b', ?_⟩
          generalize ((pp t (d :: x) : Nat) : Int) = i1 at *
          simp [-x_eMeth, -x_eAtt, -x_sAttA, B_64, m1, r1, a2, m2, r2, ne, m3, r3]
        | fin =>
          rw [y] at r3
          obtain ⟨p, b', r3⟩ := r3
          refine ⟨p, b', ?_⟩
          generalize ((pp t (d :: x) : Nat) : Int) = i1 at *
          simp [-x_eMeth, -x_eAtt, -x_sAttA, B_64, m1, r1, a2, m2, r2, ne, m3, r3]
        | out => trivial
theorem esc_for (n : Nat) (h : Suf t r) : ∀ cs : List Nat, (∃ c z, pEscs cs r = .ok c z ∧ Suf t z ∧ forD (.nm 1) [1, 2] (L_67_1 (run (n + 1))) (cs.map fun c => D.str (sg c)) [.val (.ptr A.length), .non, .non] (A ++ [rd t (pp t r) b]) = .ret (.str (sg c)) (A ++ [rd t (pp t z) b])) ∨
    (pEscs cs r = .tok r.length ∧ forD (.nm 1) [1, 2] (L_67_1 (run (n + 1))) (cs.map fun c => D.str (sg c)) [.val (.ptr A.length), .non, .non] (A ++ [rd t (pp t r) b]) = .next [.val (.ptr A.length), .non, .non] (A ++ [rd t (pp t r) b]))
  | [] => .inr ⟨rfl, rfl⟩
  | c :: cs => by
    rw [pEscs, List.map_cons, forD, x_bnm]
    cases q : (escC c).cps.toList.isPrefixOf r with
    | true =>
      refine .inl ⟨c, r.drop (escC c).length, if_pos rfl, h.drop _, ?_⟩
      have y := esc_yes (A := A) (b := b) n c pp_le ((at_pre h _).mpr q)
      rw [pp_drop h (pre_len q)] at y
      simp only [List.set_cons_succ, List.set_cons_zero]
      rw [y]
    | false =>
      rw [if_neg (by decide)]
      have y := esc_no (A := A) (b := b) n c pp_le (fun z => by rw [(at_pre h _).mp z] at q; cases q)
      simp only [List.set_cons_succ, List.set_cons_zero]
      rw [y]
      exact esc_for n h cs
def eSg (c : Nat) : D := .str (sg c)
theorem w_esc (n : Nat) (hl : t.length < 900000) (h : Suf t r) : Ans A t b eSg (run (n + 2) 67 [.ptr A.length] (A ++ [rd t (pp t r) b])) (pEscs [123, 125, 35, 39] r) := by
  rw [show n + 2 = (n + 1) + 1 from rfl, run_67]
  have it : items (.str ("{}#'" : Str)) = some ([123, 125, 35, 39].map fun c => D.str (sg c)) := by
    show some (("{}#'" : Str).cps.toList.map fun c => D.str ⟨#[c]⟩) = _
    rw [show ("{}#'" : Str).cps.toList = [123, 125, 35, 39] by decide +kernel]; rfl
  have a2 := at_place (A := A) (t := t) (p := pp t r) (b := b) 0 (Γ := [.val (.ptr A.length), .non, .non]) rfl
  rcases esc_for (A := A) (b := b) n h [123, 125, 35, 39] with ⟨c, z, e, hz, f⟩ | ⟨e, f⟩
  · rw [e]
    refine ⟨?_, hz⟩
    simp only [List.map_cons, List.map_nil] at it f
    simp [-x_eAtt, B_67, it, f, eSg]
  · rw [e]
    refine ⟨pp t r, b, ?_⟩
    simp only [List.map_cons, List.map_nil] at it f
    unfold tokX
    have sh := sh_pp hl r
    rw [show ((t.length - r.length : Nat) : Int) = ((pp t r : Nat) : Int) from rfl]
    generalize ((pp t r : Nat) : Int) = i1 at *
    simp [-x_eAtt, B_67, it, f, a2, sh]
end

end
section
open PySem L2 DL
/-! ### nodes and messages -/
theorem nm_braces : (["text", "place", "inside"] : List Str).contains "braces" = false := by decide +kernel
theorem nm_escape : (["text", "place", "inside"] : List Str).contains "escape" = false := by decide +kernel
theorem nm_node : (["text", "place", "inside"] : List Str).contains "node" = false := by decide +kernel
theorem nm_expect : (["text", "place", "inside"] : List Str).contains "expect" = false := by decide +kernel
theorem nm_key : (["text", "place", "inside"] : List Str).contains "key" = false := by decide +kernel
theorem nm_message : (["text", "place", "inside"] : List Str).contains "message" = false := by decide +kernel
theorem nm_offset : (["text", "place", "inside"] : List Str).contains "offset" = false := by decide +kernel
theorem nm_choice : (["text", "place", "inside"] : List Str).contains "choice" = false := by decide +kernel
theorem q_nl : ("\n" : Str) = sg 10 := by decide +kernel
theorem q_sp : ("\x20" : Str) = sg 32 := by decide +kernel
theorem q_ti : ("~" : Str) = sg 126 := by decide +kernel
theorem lt_sg (a c : Nat) : ((sg a).cps.toList < (sg c).cps.toList) = (a < c) := by
  show ([a] < [c]) = (a < c)
  rw [List.cons_lt_cons_iff]
  simp
theorem lt_sgA (a c : Nat) : ((sg a).cps < (sg c).cps) = (a < c) := lt_sg a c
theorem run_isSign (n c : Nat) (S : List D) : run (n + 1) 55 [.str (sg c)] S = .ok (.bl (sgnOk c)) S := by
  rw [run_55]
  have e1 := sg_ne (c := c) (d := 10)
  have l1 := lt_sgA c 32
  have l2 := lt_sgA 126 c
  rw [← q_nl] at e1
  rw [← q_sp] at l1
  rw [← q_ti] at l2
  by_cases a : c = 10
  · have : sgnOk c = true := by unfold sgnOk; rw [a]; rfl
    rw [decide_eq_true a] at e1
    simp [B_55, e1, this]
  · rw [decide_eq_false a] at e1
    by_cases b1 : c < 32
    · have : sgnOk c = false := by unfold sgnOk; exact decide_eq_false (by omega)
      simp [B_55, e1, this, eChain, oLe, l1, b1]
    · by_cases b2 : 126 < c
      · have : sgnOk c = false := by unfold sgnOk; exact decide_eq_false (by omega)
        simp [B_55, e1, this, eChain, oLe, l1, l2, b1, b2]
      · have : sgnOk c = true := by unfold sgnOk; exact decide_eq_true (by omega)
        simp [B_55, e1, this, eChain, oLe, l1, l2, b1, b2]
section
variable {A : List D} {t : Str} {r : List Nat} {b ins : Bool}
theorem w_node (n : Nat) (M : Bool → List Nat → PR (List Nd)) (hl : t.length < 900000) (h : Suf t r)
    (HB : ∀ r, Suf t r → Ans A t ins eN (run (n + 2) 66 [.ptr A.length] (A ++ [rd t (pp t r) ins])) (pBraces ins M r)) :
    Ans A t ins eN (run (n + 3) 68 [.ptr A.length] (A ++ [rd t (pp t r) ins])) (pNode ins M r) := by
  rw [show n + 3 = (n + 2) + 1 from rfl, run_68]
  have m1 := meth_rd (A := A) (t := t) (p := pp t r) (b := ins) 0 (Γ := [.val (.ptr A.length), .non]) (F := run (n + 2) 57) (α := aNil) rfl nm_sign
  cases r with
  | nil =>
    have r1 := w_sign0 (A := A) (b := ins) (n + 1) hl
    replace r1 : run (n + 2) 57 [.ptr A.length] (A ++ [rd t (pp t []) ins]) = _ := r1
    refine ⟨pp t [], ins, ?_⟩
    simp [-x_eMeth, -x_eAtt, -x_sAttA, B_68, m1, r1]
  | cons c q =>
    have r1 := w_sign (A := A) (b := ins) (n + 1) hl h
    replace r1 : run (n + 2) 57 [.ptr A.length] (A ++ [rd t (pp t (c :: q)) ins]) = _ := r1
    have e1 := sg_ne (c := c) (d := 123)
    have e2 := sg_ne (c := c) (d := 39)
    have e3 := sg_ne (c := c) (d := 35)
    rw [← q_ob] at e1
    rw [← q_ap] at e2
    rw [← q_nu] at e3
    rw [pNode]
    by_cases c1 : c = 123
    · rw [if_pos c1]
      rw [decide_eq_true c1] at e1
      have m2 := meth_rd (A := A) (t := t) (p := pp t (c :: q)) (b := ins) 0 (Γ := [.val (.ptr A.length), .val (.str (sg c))]) (F := run (n + 2) 66) (α := aNil) rfl nm_braces
      have r2 := HB (c :: q) h
      cases y : pBraces ins M (c :: q) with
      | ok nd z =>
        rw [y] at r2
        obtain ⟨r2, hz⟩ := r2
        refine ⟨?_, hz⟩
        simp [-x_eMeth, -x_eAtt, -x_sAttA, B_68, m1, r1, e1, m2, r2]
      | tok k =>
        rw [y] at r2
        obtain ⟨p, b', r2⟩ := r2
        refine ⟨p, b', ?_⟩
        simp [-x_eMeth, -x_eAtt, -x_sAttA, B_68, m1, r1, e1, m2, r2]
      | fin =>
        rw [y] at r2
        obtain ⟨p, b', r2⟩ := r2
        refine ⟨p, b', ?_⟩
        simp [-x_eMeth, -x_eAtt, -x_sAttA, B_68, m1, r1, e1, m2, r2]
      | out => trivial
    · rw [if_neg c1]
      rw [decide_eq_false c1] at e1
      by_cases c2 : c = 39
      · rw [if_pos c2]
        rw [decide_eq_true c2] at e2
        have m2 := meth_rd (A := A) (t := t) (p := pp t (c :: q)) (b := ins) 0 (Γ := [.val (.ptr A.length), .val (.str (sg c))]) (F := run (n + 2) 67) (α := aNil) rfl nm_escape
        have r2 := w_esc (A := A) (b := ins) n hl h
        cases y : pEscs [123, 125, 35, 39] (c :: q) with
        | ok d z =>
          rw [y] at r2
          obtain ⟨r2, hz⟩ := r2
          refine ⟨?_, hz⟩
          rw [eN]
          simp [-x_eMeth, -x_eAtt, -x_sAttA, B_68, m1, r1, e1, e2, m2, r2, eSg]
        | tok k =>
          rw [y] at r2
          obtain ⟨p, b', r2⟩ := r2
          refine ⟨p, b', ?_⟩
          simp [-x_eMeth, -x_eAtt, -x_sAttA, B_68, m1, r1, e1, e2, m2, r2]
        | fin =>
          rw [y] at r2
          obtain ⟨p, b', r2⟩ := r2
          refine ⟨p, b', ?_⟩
          simp [-x_eMeth, -x_eAtt, -x_sAttA, B_68, m1, r1, e1, e2, m2, r2]
        | out => trivial
      · rw [if_neg c2]
        rw [decide_eq_false c2] at e2
        have a3 := at_inside (A := A) (t := t) (p := pp t (c :: q)) (b := ins) 0 (Γ := [.val (.ptr A.length), .val (.str (sg c))]) rfl
        have ad := add_place (A := A) (t := t) (p := pp t (c :: q)) (b := ins) 0 (Γ := [.val (.ptr A.length), .val (.str (sg c))]) rfl (e := eC (.int 1)) (k := 1) (fun _ => rfl)
        rw [pp_cons h] at ad
        by_cases c3 : c = 35 ∧ ins = true
        · rw [if_pos c3]
          rw [decide_eq_true c3.1] at e3
          refine ⟨?_, h.tail⟩
          obtain ⟨_, rfl⟩ := c3
          rw [eN]
          simp [-x_eMeth, -x_eAtt, -x_sAttA, B_68, m1, r1, e1, e2, e3, a3, ad]
        · rw [if_neg c3]
          have a2 := at_place (A := A) (t := t) (p := pp t (c :: q)) (b := ins) 0 (Γ := [.val (.ptr A.length), .val (.str (sg c))]) rfl
          have ci := cIn_s (c := c) (w := ES)
          have sn := run_isSign (n + 1) c (A ++ [rd t (pp t (c :: q)) ins])
          replace sn : run (n + 2) 55 [.str (sg c)] (A ++ [rd t (pp t (c :: q)) ins]) = _ := sn
          have ei : inW ES c = decide (c ∈ ES.cps.toList) := rfl
          rw [← ei] at ci
          have tk : ∃ p b', (Res.exc (tokX (pp t (c :: q))) (A ++ [rd t (pp t (c :: q)) ins]) : Res D) = .exc (tokX (t.length - (q.length + 1))) (A ++ [rd t p b']) := ⟨_, _, rfl⟩
          have hne : decide (c = 35) = true → ins = false := fun z => by
            cases ins with
            | false => rfl
            | true => exact absurd ⟨of_decide_eq_true z, rfl⟩ c3
          by_cases c4 : inW ES c = true ∨ sgnOk c = false
          · rw [if_pos c4]
            have goal : ∀ x, x = (Res.exc (tokX (pp t (c :: q))) (A ++ [rd t (pp t (c :: q)) ins]) : Res D) → Ans A t ins eN x (.tok (q.length + 1)) := fun x hx => by rw [hx]; exact tk
            apply goal
            have sh := sh_pp hl (c :: q)
            unfold tokX
            unfold ES at ci c4
            generalize ((pp t (c :: q) : Nat) : Int) = i1 at *
            by_cases c5 : c = 35
            · rw [decide_eq_true c5] at e3 hne
              have hn := hne rfl
              subst hn
              rcases c4 with c4 | c4
              · rw [c4] at ci
                simp [-x_eMeth, -x_eAtt, -x_sAttA, B_68, m1, r1, e1, e2, e3, a3, ci, a2, sh]
              · rw [c4] at sn
                cases c6 : inW "{}#'" c <;> rw [c6] at ci <;> simp [-x_eMeth, -x_eAtt, -x_sAttA, B_68, m1, r1, e1, e2, e3, a3, ci, a2, sn, sh]
            · rw [decide_eq_false c5] at e3
              rcases c4 with c4 | c4
              · rw [c4] at ci
                simp [-x_eMeth, -x_eAtt, -x_sAttA, B_68, m1, r1, e1, e2, e3, a3, ci, a2, sh]
              · rw [c4] at sn
                cases c6 : inW "{}#'" c <;> rw [c6] at ci <;> simp [-x_eMeth, -x_eAtt, -x_sAttA, B_68, m1, r1, e1, e2, e3, a3, ci, a2, sn, sh]
          · rw [if_neg c4]
            refine ⟨?_, h.tail⟩
            have c6 : inW ES c = false := by cases z : inW ES c with | false => rfl | true => exact absurd (.inl z) c4
            have c7 : sgnOk c = true := by cases z : sgnOk c with | true => rfl | false => exact absurd (.inr z) c4
            have c5 : c ≠ 35 := fun z => by rw [z] at c6; exact absurd c6 (by decide +kernel)
            rw [decide_eq_false c5] at e3
            rw [c6] at ci
            rw [c7] at sn
            unfold ES at ci
            rw [eN]
            simp [-x_eMeth, -x_eAtt, -x_sAttA, B_68, m1, r1, e1, e2, e3, ci, sn, ad]
theorem put_inside (x y z n : D) : putD ("inside" : Str) n ["text", "place", "inside"] [x, y, z] = ((["text", "place", "inside"] : List Str), [x, y, n]) := by
  have e : ¬ ("text" : Str) = "inside" := by decide +kernel
  have e2 : ¬ ("place" : Str) = "inside" := by decide +kernel
  unfold putD; rw [if_neg e]; unfold putD; rw [if_neg e2]; unfold putD; rw [if_pos rfl]
theorem set_inside {p : Nat} (i j : Nat) {Γ : List Sl} {b' : Bool} (h : Γ[i]? = some (.val (.ptr A.length))) (hj : Γ[j]? = some (.val (.bl b'))) : sAtt "inside" ga_inside (eV i) (eV j) Γ (A ++ [rd t p b]) = .next Γ (A ++ [rd t p b']) := by
  have g : ga_inside 21 = true := rfl
  have pq := put_inside (.str t) (.int p) (.bl b) (.bl b')
  have sc := set_cc A
  rw [x_sAtt, x_eV, hj]
  simp [rd, g, pq, sc, h]
def xOut : Out → Option (Exn × List D)
  | .exc e _ S => some (e, S)
  | _ => none
theorem xOut_inv {o : Out} {e : Exn} {S : List D} (h : xOut o = some (e, S)) : ∃ Γ, o = .exc e Γ S := by
  cases o with
  | exc e' Γ S' => cases h; exact ⟨Γ, rfl⟩
  | _ => cases h
/-- what a while of the reader's comes to -/
def AnsW (A : List D) (t : Str) (b : Bool) {α : Type} (G : α → List Nat → Out) (res : Out) : PR α → Prop
  | .ok a r => res = G a r ∧ Suf t r
  | .tok k => ∃ p b', xOut res = some (tokX (t.length - k), A ++ [rd t p b'])
  | .fin => ∃ p b', xOut res = some (finX, A ++ [rd t p b'])
  | .out => True
def gMsg (A : List D) (ins b : Bool) (m : List Nd) : List Sl := [.val (.ptr A.length), .val (.bl ins), .val (.bl b), .own (.lst (eL m))]
theorem msg_test (R : Rec) (hl : t.length < 900000) (h : Suf t r) (m : List Nd) : T_69_2 R (gMsg A ins b m) (A ++ [rd t (pp t r) ins]) = .ok (decide (¬ (r = [] ∨ r.head? = some 125))) (A ++ [rd t (pp t r) ins]) := by
  rw [e_T_69_2]
  have a1 := at_text (A := A) (t := t) (p := pp t r) (b := ins) 0 (Γ := gMsg A ins b m) rfl
  have a2 := at_place (A := A) (t := t) (p := pp t r) (b := ins) 0 (Γ := gMsg A ins b m) rfl
  have i2 := dLen_s (sz_of hl)
  have hn := h.len
  cases r with
  | nil =>
    have c1 : ¬ ((pp t [] : Nat) : Int) < (t.length : Int) := by unfold pp; simp
    generalize ((pp t [] : Nat) : Int) = i1 at *
    simp [-x_eAtt, a1, a2, i2, c1]
  | cons c q =>
    have c1 : ((pp t (c :: q) : Nat) : Int) < (t.length : Int) := by unfold pp; rw [List.length_cons] at hn ⊢; omega
    have i1 := dIdx_s (sz_of hl) (show cAt t (pp t (c :: q)) = some c by rw [h.get0]; rfl)
    have e1 := sg_ne (c := c) (d := 125)
    rw [← q_cb] at e1
    generalize ((pp t (c :: q) : Nat) : Int) = i3 at *
    by_cases c2 : c = 125
    · subst c2
      rw [decide_eq_true rfl] at e1
      simp [-x_eAtt, a1, a2, i2, c1, i1, e1]
    · rw [decide_eq_false c2] at e1
      simp [-x_eAtt, a1, a2, i2, c1, i1, e1, c2]
theorem while_nodes (n : Nat) (N : List Nat → PR Nd) (hl : t.length < 900000)
    (HN : ∀ r, Suf t r → Ans A t ins eN (run n 68 [.ptr A.length] (A ++ [rd t (pp t r) ins])) (N r)) : ∀ (f fu : Nat) (acc : List Nd) (r : List Nat), Suf t r → acc.length + f ≤ 1000000 → f ≤ fu →
    AnsW A t ins (fun m z => .next (gMsg A ins b m) (A ++ [rd t (pp t z) ins])) (whileD (T_69_2 (run n)) [] (L_69_1 (run n)) fu (gMsg A ins b acc) (A ++ [rd t (pp t r) ins])) (pNodes N f acc r)
  | 0, _, _, _, _, _, _ => trivial
  | f + 1, fu, acc, r, h, ha, hf => by
    obtain ⟨fu, rfl⟩ : ∃ k, fu = k + 1 := ⟨fu - 1, by omega⟩
    rw [pNodes, whileD, msg_test (run n) hl h acc, after_ok]
    by_cases c : r = [] ∨ r.head? = some 125
    · rw [if_pos c, if_neg (by simp [c])]
      exact ⟨rfl, h⟩
    · rw [if_neg c, if_pos (decide_eq_true c)]
      have m1 := meth_rd (A := A) (t := t) (p := pp t r) (b := ins) 0 (Γ := gMsg A ins b acc) (F := run n 68) (α := aNil) rfl nm_node
      have r1 := HN r h
      have own : (gMsg A ins b acc)[3]? = some (.own (.lst (eL acc))) := rfl
      cases y : N r with
      | ok nd z =>
        rw [y] at r1
        obtain ⟨r1, hz⟩ := r1
        have sz : (eL acc).length < sizeLine := by rw [eL_len]; exact Nat.lt_of_le_of_lt (show acc.length ≤ 1000000 by omega) (by decide)
        have step : L_69_1 (run n) (gMsg A ins b acc) (A ++ [rd t (pp t r) ins]) = .next (gMsg A ins b (acc ++ [nd])) (A ++ [rd t (pp t z) ins]) := by
          rw [e_L_69_1, x_sAppO, own]
          simp only [m1, x_aNil, Res.bind_ok, r1, after_ok]
          rw [if_pos sz]
          unfold gMsg
          rw [eL_app, eL_one]
          rfl
        rw [step, PR.bind_ok]
        have ih := while_nodes n N hl HN f fu (acc ++ [nd]) z hz (by rw [List.length_append]; show acc.length + 1 + f ≤ _; omega) (by omega)
        simpa only [x_clr0] using ih
      | tok k =>
        rw [y] at r1
        obtain ⟨p, b', r1⟩ := r1
        refine ⟨p, b', ?_⟩
        rw [e_L_69_1, x_sAppO, own]
        simp only [m1, x_aNil, Res.bind_ok, r1, after_exc, xOut]
      | fin =>
        rw [y] at r1
        obtain ⟨p, b', r1⟩ := r1
        refine ⟨p, b', ?_⟩
        rw [e_L_69_1, x_sAppO, own]
        simp only [m1, x_aNil, Res.bind_ok, r1, after_exc, xOut]
      | out => trivial
theorem w_message (n : Nat) (N : List Nat → PR Nd) (hl : t.length < 900000) (h : Suf t r)
    (HN : ∀ r, Suf t r → Ans A t ins eN (run n 68 [.ptr A.length] (A ++ [rd t (pp t r) ins])) (N r)) :
    Ans A t b eM (run (n + 1) 69 [.ptr A.length, .bl ins] (A ++ [rd t (pp t r) b])) (pNodes N (r.length + 1) [] r) := by
  rw [run_69]
  have a1 := at_inside (A := A) (t := t) (p := pp t r) (b := b) 0 (Γ := [.val (.ptr A.length), .val (.bl ins), .non, .non]) rfl
  have s1 := set_inside (A := A) (t := t) (p := pp t r) (b := b) 0 1 (Γ := [.val (.ptr A.length), .val (.bl ins), .val (.bl b), .non]) (b' := ins) rfl rfl
  have hh := h.len
  have w := while_nodes (A := A) (b := b) n N hl HN (r.length + 1) fuel [] r h (by simp; omega) (by show r.length + 1 ≤ 1000000; omega)
  have e0 : gMsg A ins b [] = [.val (.ptr A.length), .val (.bl ins), .val (.bl b), .own (.lst [])] := rfl
  rw [e0] at w
  cases y : pNodes N (r.length + 1) [] r with
  | ok m z =>
    rw [y] at w
    obtain ⟨w, hz⟩ := w
    have s2 := set_inside (A := A) (t := t) (p := pp t z) (b := ins) 0 2 (Γ := gMsg A ins b m) (b' := b) rfl rfl
    have own : (gMsg A ins b m)[3]? = some (.own (.lst (eL m))) := rfl
    refine ⟨?_, hz⟩
    simp [-x_eMeth, -x_eAtt, -x_sAtt, B_69, a1, s1, w, s2, own, eM]
  | tok k =>
    rw [y] at w
    obtain ⟨p, b', w⟩ := w
    obtain ⟨Γ, w⟩ := xOut_inv w
    refine ⟨p, b', ?_⟩
    simp [-x_eMeth, -x_eAtt, -x_sAtt, B_69, a1, s1, w]
  | fin =>
    rw [y] at w
    obtain ⟨p, b', w⟩ := w
    obtain ⟨Γ, w⟩ := xOut_inv w
    refine ⟨p, b', ?_⟩
    simp [-x_eMeth, -x_eAtt, -x_sAtt, B_69, a1, s1, w]
  | out => trivial
end

end
section
open PySem L2 DL
/-! ### choices, braces, the whole -/
theorem eqF_K (a c : Ky) : eqF (eK a) (eK c) = decide (a = c) := by
  cases a with
  | i x =>
    cases c with
    | i y =>
      show (x == y) = _
      by_cases h : x = y
      · rw [h, decide_eq_true rfl]; exact beq_self_eq_true _
      · rw [decide_eq_false (fun z => h (by cases z; rfl))]; exact beq_eq_false_iff_ne.mpr h
    | s y => rw [decide_eq_false (fun z => by cases z)]; rfl
  | s x =>
    cases c with
    | i y => rw [decide_eq_false (fun z => by cases z)]; rfl
    | s y =>
      show decide (x = y) = _
      by_cases h : x = y
      · rw [h, decide_eq_true rfl, decide_eq_true rfl]
      · rw [decide_eq_false h, decide_eq_false (fun z => h (by cases z; rfl))]
theorem flat_K (k : Ky) : flatD (eK k) = true := by cases k <;> rfl
theorem dIn_lst (x : D) (xs : List D) : dIn x (.lst xs) = if flatD x = true ∧ xs.all flatD = true then some (inF x xs) else none := by cases x <;> rfl
theorem cEq_int_str (n : Int) : cEq (.int n) (.str "other") = some (.bl false) := by
  show (if PyData.canLay0 (.int n) = true ∧ PyData.canLay0 (.str "other") = true ∧ min (PyData.depth (.int n)) (PyData.depth (.str "other")) ≤ 64 then some (PyData.eqv (.int n) (.str "other")) else none).map D.bl = _
  have c : PyData.canLay0 (.str "other") = true := by decide +kernel
  rw [if_pos ⟨rfl, c, Nat.le_trans (Nat.min_le_right _ _) (by decide)⟩]
  rfl
theorem cIn_keys (k : Ky) (cs : List Cs) : cIn (eK k) (.lst (cs.map fun c => eK (cKey c))) = some (.bl (cs.any fun c => decide (cKey c = k))) := by
  have f : (cs.map fun c => eK (cKey c)).all flatD = true := by
    rw [List.all_map, List.all_eq_true]
    intro c _; exact flat_K _
  have e : inF (eK k) (cs.map fun c => eK (cKey c)) = cs.any fun c => decide (cKey c = k) := by
    unfold inF
    rw [List.any_map]
    congr 1
    funext c
    exact eqF_K _ _
  unfold cIn
  rw [dIn_lst, if_pos ⟨flat_K k, f⟩, e]; rfl
section
variable {A : List D} {t : Str} {r : List Nat} {b : Bool}
/-- slots of Reader.choice; h: the head -/
def gCh (A : List D) (nm kd : Str) (h : List D) (cs : List Cs) : List Sl := [.val (.ptr A.length), .val (.str nm), .val (.str kd), .val (.tup h), .own (.lst (eCs cs)), .non, .non, .non, .non]
theorem other_K (k : Ky) : cEq (eK k) (.str "other") = some (.bl (decide (k = .s "other"))) := by
  cases k with
  | i n => rw [decide_eq_false (fun z => by cases z)]; exact cEq_int_str n
  | s x =>
    show (some (x == ("other" : Str))).map D.bl = _
    rw [beq_str]
    by_cases h : x = "other"
    · rw [decide_eq_true h, decide_eq_true (by rw [h])]; rfl
    · rw [decide_eq_false h, decide_eq_false (fun z => h (by cases z; rfl))]; rfl
theorem while_cases (n : Nat) (plu ins : Bool) (M : List Nat → PR (List Nd)) (nm : Str) (hd : List D) (hh : hd.length ≤ 10) (hl : t.length < 900000)
    (HM : ∀ r, Suf t r → Ans A t b eM (run (n + 4) 69 [.ptr A.length, .bl (plu || b)] (A ++ [rd t (pp t r) b])) (M r)) : ∀ (f fu : Nat) (cs : List Cs) (r : List Nat), Suf t r → cs.length + f ≤ 1000000 → f ≤ fu →
    AnsW A t b (fun (cm : List Cs × List Nd) z => .ret (.tup (hd ++ [.lst (eCs cm.1), .lst (eL cm.2)])) (A ++ [rd t (pp t z) b])) (whileD (T_65_3 (run (n + 4))) [5, 6, 7] (L_65_2 (run (n + 4))) fu (gCh A nm (kd plu) hd cs) (A ++ [rd t (pp t r) b])) (pCases plu M f cs r)
  | 0, _, _, _, _, _, _ => trivial
  | f + 1, fu, cs, r, h, ha, hf => by
    obtain ⟨fu, rfl⟩ : ∃ k, fu = k + 1 := ⟨fu - 1, by omega⟩
    have tt : T_65_3 (run (n + 4)) (gCh A nm (kd plu) hd cs) (A ++ [rd t (pp t r) b]) = .ok true (A ++ [rd t (pp t r) b]) := by rw [e_T_65_3]; simp
    rw [pCases, whileD, tt, after_ok, if_pos rfl]
    have m1 := meth_rd (A := A) (t := t) (p := pp t r) (b := b) 0 (Γ := gCh A nm (kd plu) hd cs) (F := run (n + 4) 64) (α := aCons (eV 2) aNil) rfl nm_key
    have r1 := w_key (A := A) (b := b) n plu hl h
    unfold gCh at m1
    rw [e_L_65_2]
    unfold gCh
    cases y1 : pKey plu r with
    | tok k => rw [y1] at r1; obtain ⟨p, b', r1⟩ := r1; refine ⟨p, b', ?_⟩; simp [-x_eMeth, -x_eAtt, m1, r1, xOut]
    | fin => rw [y1] at r1; obtain ⟨p, b', r1⟩ := r1; refine ⟨p, b', ?_⟩; simp [-x_eMeth, -x_eAtt, m1, r1, xOut]
    | out => trivial
    | ok kb z1 =>
      rw [y1] at r1
      obtain ⟨r1, h1⟩ := r1
      rw [PR.bind_ok]
      unfold eKB at r1
      obtain ⟨ky, bg⟩ := kb
      simp only at r1 ⊢
      have cl : cs.length ≤ 5000000 := by omega
      have cp : ∀ (Γ : List Sl) (S : List D), Γ.length = 9 → compD (.tp [.nm 8, .nm 7]) tTrue (C_65_1 (run (n + 4))) (eCs cs) Γ S = .ok (cs.map fun c => eK (cKey c)) S := fun Γ S hΓ => comp_cases _ cs fun c _ => by
        rw [e_C_65_1, x_eV]
        rw [List.getElem?_set_ne (by decide), List.getElem?_set_self (by omega)]
      have lo : lenOk (cs.map fun c => eK (cKey c)) = some (.lst (cs.map fun c => eK (cKey c))) := lenOk_le (by rw [List.length_map]; exact cl)
      have ci := cIn_keys ky cs
      have rk := ref_eK ky
      have ok := other_K ky
      cases c1 : cs.any fun c => decide (cKey c = ky) with
      | true =>
        rw [c1] at ci
        rw [if_pos rfl]
        refine ⟨pp t z1, b, ?_⟩
        unfold tokX
        have sh : shOk (.int ((t.length - bg : Nat) : Int)) = true := sh_nat (by omega)
        generalize ((t.length - bg : Nat) : Int) = i1 at *
        generalize eK ky = dk at *
        simp [-x_eMeth, -x_eAtt, m1, r1, cp, lo, ci, rk, sh, xOut]
      | false =>
        rw [c1] at ci
        rw [if_neg (by decide)]
        generalize hdk : eK ky = dk at *
        have r2 := w_expect (A := A) (b := b) (n + 2) 123 hl h1
        replace r2 : Ans A t b eU (run (n + 4) 59 [.ptr A.length, .str (sg 123)] (A ++ [rd t (pp t z1) b])) (pExpect 123 z1) := r2
        rw [← q_ob] at r2
        have m2 := meth_rd (A := A) (t := t) (p := pp t z1) (b := b) 0 (Γ := [.val (.ptr A.length), .val (.str nm), .val (.str (kd plu)), .val (.tup hd), .own (.lst (eCs cs)), .val dk, .val (.int ((t.length - bg : Nat) : Int)), .non, .non]) (F := run (n + 4) 59) (α := aCons (eC (.str "{")) aNil) rfl nm_expect
        generalize ((t.length - bg : Nat) : Int) = i1 at *
        cases y2 : pExpect 123 z1 with
        | tok k => rw [y2] at r2; obtain ⟨p, b', r2⟩ := r2; refine ⟨p, b', ?_⟩; simp [-x_eMeth, -x_eAtt, m1, r1, cp, lo, ci, rk, m2, r2, xOut]
        | fin => rw [y2] at r2; obtain ⟨p, b', r2⟩ := r2; refine ⟨p, b', ?_⟩; simp [-x_eMeth, -x_eAtt, m1, r1, cp, lo, ci, rk, m2, r2, xOut]
        | out => trivial
        | ok u z2 =>
          rw [y2] at r2
          obtain ⟨r2, h2⟩ := r2
          rw [PR.bind_ok]
          have r3 := HM z2 h2
          have m3 := meth_rd (A := A) (t := t) (p := pp t z2) (b := b) 0 (Γ := [.val (.ptr A.length), .val (.str nm), .val (.str (kd plu)), .val (.tup hd), .own (.lst (eCs cs)), .val dk, .val (.int i1), .non, .non]) (F := run (n + 4) 69) (α := aCons (eOr (eOp cEq (eV 2) (eC (.str "plural"))) (eAtt "inside" ga_inside (eV 0))) aNil) rfl nm_message
          have a3 := at_inside (A := A) (t := t) (p := pp t z2) (b := b) 0 (Γ := [.val (.ptr A.length), .val (.str nm), .val (.str (kd plu)), .val (.tup hd), .own (.lst (eCs cs)), .val dk, .val (.int i1), .non, .non]) rfl
          have ar : aCons (eOr (eOp cEq (eV 2) (eC (.str "plural"))) (eAtt "inside" ga_inside (eV 0))) aNil [.val (.ptr A.length), .val (.str nm), .val (.str (kd plu)), .val (.tup hd), .own (.lst (eCs cs)), .val dk, .val (.int i1), .non, .non] (A ++ [rd t (pp t z2) b]) = .ok [.bl (plu || b)] (A ++ [rd t (pp t z2) b]) := by
            cases plu with
            | true => simp [-x_eAtt, kd, a3]
            | false =>
              have ss := s_sp
              have e1 : cEq (.str "select") (.str "plural") = some (.bl false) := by show (some _).map D.bl = _; rw [ss]; rfl
              have kf : kd false = ("select" : Str) := rfl
              rw [kf] at a3 ⊢
              simp [-x_eAtt, a3, e1]
          rw [ar, Res.bind_ok] at m3
          cases y3 : M z2 with
          | tok k => rw [y3] at r3; obtain ⟨p, b', r3⟩ := r3; refine ⟨p, b', ?_⟩; simp [-x_eMeth, -x_eAtt, m1, r1, cp, lo, ci, rk, m2, r2, m3, r3, xOut]
          | fin => rw [y3] at r3; obtain ⟨p, b', r3⟩ := r3; refine ⟨p, b', ?_⟩; simp [-x_eMeth, -x_eAtt, m1, r1, cp, lo, ci, rk, m2, r2, m3, r3, xOut]
          | out => trivial
          | ok m z3 =>
            rw [y3] at r3
            obtain ⟨r3, h3⟩ := r3
            rw [PR.bind_ok]
            have r4 := w_expect (A := A) (b := b) (n + 2) 125 hl h3
            replace r4 : Ans A t b eU (run (n + 4) 59 [.ptr A.length, .str (sg 125)] (A ++ [rd t (pp t z3) b])) (pExpect 125 z3) := r4
            rw [← q_cb] at r4
            have m4 := meth_rd (A := A) (t := t) (p := pp t z3) (b := b) 0 (Γ := [.val (.ptr A.length), .val (.str nm), .val (.str (kd plu)), .val (.tup hd), .own (.lst (eCs cs)), .val dk, .val (.int i1), .val (eM m), .non]) (F := run (n + 4) 59) (α := aCons (eC (.str "}")) aNil) rfl nm_expect
            cases y4 : pExpect 125 z3 with
            | tok k => rw [y4] at r4; obtain ⟨p, b', r4⟩ := r4; refine ⟨p, b', ?_⟩; simp [-x_eMeth, -x_eAtt, m1, r1, cp, lo, ci, rk, m2, r2, m3, r3, m4, r4, xOut]
            | fin => rw [y4] at r4; obtain ⟨p, b', r4⟩ := r4; refine ⟨p, b', ?_⟩; simp [-x_eMeth, -x_eAtt, m1, r1, cp, lo, ci, rk, m2, r2, m3, r3, m4, r4, xOut]
            | out => trivial
            | ok u4 z4 =>
              rw [y4] at r4
              obtain ⟨r4, h4⟩ := r4
              rw [PR.bind_ok]
              by_cases c5 : ky = .s "other"
              · rw [if_pos c5]
                rw [decide_eq_true c5] at ok
                have r5 := w_expect (A := A) (b := b) (n + 2) 125 hl h4
                replace r5 : Ans A t b eU (run (n + 4) 59 [.ptr A.length, .str (sg 125)] (A ++ [rd t (pp t z4) b])) (pExpect 125 z4) := r5
                rw [← q_cb] at r5
                have m5 := meth_rd (A := A) (t := t) (p := pp t z4) (b := b) 0 (Γ := [.val (.ptr A.length), .val (.str nm), .val (.str (kd plu)), .val (.tup hd), .own (.lst (eCs cs)), .val dk, .val (.int i1), .val (eM m), .non]) (F := run (n + 4) 59) (α := aCons (eC (.str "}")) aNil) rfl nm_expect
                cases y5 : pExpect 125 z4 with
                | tok k => rw [y5] at r5; obtain ⟨p, b', r5⟩ := r5; refine ⟨p, b', ?_⟩; simp [-x_eMeth, -x_eAtt, m1, r1, cp, lo, ci, rk, m2, r2, m3, r3, m4, r4, ok, m5, r5, xOut]
                | fin => rw [y5] at r5; obtain ⟨p, b', r5⟩ := r5; refine ⟨p, b', ?_⟩; simp [-x_eMeth, -x_eAtt, m1, r1, cp, lo, ci, rk, m2, r2, m3, r3, m4, r4, ok, m5, r5, xOut]
                | out => trivial
                | ok u5 z5 =>
                  rw [y5] at r5
                  obtain ⟨r5, h5⟩ := r5
                  refine ⟨?_, h5⟩
                  have ad : dAdd (.tup hd) (.tup [.lst (eCs cs), eM m]) = some (.tup (hd ++ [.lst (eCs cs), eM m])) := dAdd_tup (by show hd.length + 2 ≤ _; omega)
                  show _ = Out.ret (.tup (hd ++ [.lst (eCs cs), eM m])) _

                  simp [-x_eMeth, -x_eAtt, m1, r1, cp, lo, ci, rk, m2, r2, m3, r3, m4, r4, ok, m5, r5, ad]
              · rw [if_neg c5]
                rw [decide_eq_false c5] at ok
                have ih := while_cases n plu ins M nm hd hh hl HM f fu (cs ++ [.mk ky m]) z4 h4 (by rw [List.length_append]; show cs.length + 1 + f ≤ _; omega) (by omega)
                have sz : (eCs cs).length < sizeLine := by rw [eCs_len]; exact Nat.lt_of_le_of_lt (show cs.length ≤ 1000000 by omega) (by decide)
                unfold gCh at ih
                rw [eCs_app, eCs_one, eC1, hdk] at ih
                have em : D.lst (eL m) = eM m := rfl
                rw [em] at ih

                rw [eCs_len] at sz
                simp [-x_eMeth, -x_eAtt, m1, r1, cp, lo, ci, rk, m2, r2, m3, r3, m4, r4, ok, sz]
                exact ih
end
section
variable {A : List D} {t : Str} {r : List Nat} {b : Bool}
/-- what holds of the messages within -/
def HMsg (A : List D) (t : Str) (b : Bool) (k : Nat) (M : Bool → List Nat → PR (List Nd)) : Prop :=
  ∀ (i : Bool) (r : List Nat), Suf t r → Ans A t b eM (run k 69 [.ptr A.length, .bl i] (A ++ [rd t (pp t r) b])) (M i r)
theorem w_choice (n : Nat) (plu : Bool) (M : Bool → List Nat → PR (List Nd)) (nm : Str) (hl : t.length < 900000) (h : Suf t r) (HM : HMsg A t b (n + 4) M) :
    Ans A t b eN (run (n + 5) 65 [.ptr A.length, .str nm, .str (kd plu)] (A ++ [rd t (pp t r) b])) (pChoice plu b M nm r) := by
  rw [show n + 5 = (n + 4) + 1 from rfl, run_65]
  have r1 := w_expect (A := A) (b := b) (n + 2) 44 hl h
  replace r1 : Ans A t b eU (run (n + 4) 59 [.ptr A.length, .str (sg 44)] (A ++ [rd t (pp t r) b])) (pExpect 44 r) := r1
  rw [← q_co] at r1
  generalize hk : kd plu = kk
  have m1 := meth_rd (A := A) (t := t) (p := pp t r) (b := b) 0 (Γ := [.val (.ptr A.length), .val (.str nm), .val (.str kk), .non, .non, .non, .non, .non, .non]) (F := run (n + 4) 59) (α := aCons (eC (.str ",")) aNil) rfl nm_expect
  unfold pChoice
  cases y1 : pExpect 44 r with
  | tok k => rw [y1] at r1; obtain ⟨p, b', r1⟩ := r1; refine ⟨p, b', ?_⟩; simp [-x_eMeth, -x_eAtt, B_65, m1, r1]
  | fin => rw [y1] at r1; obtain ⟨p, b', r1⟩ := r1; refine ⟨p, b', ?_⟩; simp [-x_eMeth, -x_eAtt, B_65, m1, r1]
  | out => trivial
  | ok u z1 =>
    rw [y1] at r1
    obtain ⟨r1, h1⟩ := r1
    rw [PR.bind_ok]
    cases plu with
    | true =>
      rw [if_pos rfl]
      obtain rfl : kk = ("plural" : Str) := hk.symm
      have r2 := w_off (A := A) (b := b) (n + 1) hl h1
      replace r2 : Ans A t b eNat (run (n + 4) 63 [.ptr A.length] (A ++ [rd t (pp t z1) b])) (pOff z1) := r2
      have m2 := meth_rd (A := A) (t := t) (p := pp t z1) (b := b) 0 (Γ := [.val (.ptr A.length), .val (.str nm), .val (.str "plural"), .val (.tup [.str "plural", .str nm]), .non, .non, .non, .non, .non]) (F := run (n + 4) 63) (α := aNil) rfl nm_offset
      cases y2 : pOff z1 with
      | tok k => rw [y2] at r2; obtain ⟨p, b', r2⟩ := r2; refine ⟨p, b', ?_⟩; simp [-x_eMeth, -x_eAtt, B_65, m1, r1, m2, r2]
      | fin => rw [y2] at r2; obtain ⟨p, b', r2⟩ := r2; refine ⟨p, b', ?_⟩; simp [-x_eMeth, -x_eAtt, B_65, m1, r1, m2, r2]
      | out => trivial
      | ok f z2 =>
        rw [y2] at r2
        obtain ⟨r2, h2⟩ := r2
        rw [PR.bind_ok]
        have hn := h2.len
        have w := while_cases (A := A) (b := b) n true b (M true) nm [.str "plural", .str nm, .int (f : Int)] (by show 3 ≤ 10; decide) hl (fun r hr => HM true r hr) (z2.length + 1) fuel [] z2 h2 (by simp; omega) (by show z2.length + 1 ≤ 1000000; omega)
        unfold gCh at w
        rw [hk, eCs_nil] at w
        unfold eNat at r2
        cases y3 : pCases true (M true) (z2.length + 1) [] z2 with
        | tok k => rw [y3] at w; obtain ⟨p, b', w⟩ := w; obtain ⟨Γ, w⟩ := xOut_inv w; refine ⟨p, b', ?_⟩; simp [-x_eMeth, -x_eAtt, B_65, m1, r1, m2, r2, w]
        | fin => rw [y3] at w; obtain ⟨p, b', w⟩ := w; obtain ⟨Γ, w⟩ := xOut_inv w; refine ⟨p, b', ?_⟩; simp [-x_eMeth, -x_eAtt, B_65, m1, r1, m2, r2, w]
        | out => trivial
        | ok cm z3 =>
          rw [y3] at w
          obtain ⟨w, h3⟩ := w
          refine ⟨?_, h3⟩
          rw [eN]
          simp [-x_eMeth, -x_eAtt, B_65, m1, r1, m2, r2, w]
    | false =>
      rw [if_neg (by decide)]
      obtain rfl : kk = ("select" : Str) := hk.symm
      have ss := s_sp
      have hn := h1.len
      have w := while_cases (A := A) (b := b) n false b (M b) nm [.str "select", .str nm] (by show 2 ≤ 10; decide) hl (fun r hr => HM b r hr) (z1.length + 1) fuel [] z1 h1 (by simp; omega) (by show z1.length + 1 ≤ 1000000; omega)
      unfold gCh at w
      rw [hk, eCs_nil] at w
      cases y3 : pCases false (M b) (z1.length + 1) [] z1 with
      | tok k => rw [y3] at w; obtain ⟨p, b', w⟩ := w; obtain ⟨Γ, w⟩ := xOut_inv w; refine ⟨p, b', ?_⟩; simp [-x_eMeth, -x_eAtt, B_65, m1, r1, ss, w]
      | fin => rw [y3] at w; obtain ⟨p, b', w⟩ := w; obtain ⟨Γ, w⟩ := xOut_inv w; refine ⟨p, b', ?_⟩; simp [-x_eMeth, -x_eAtt, B_65, m1, r1, ss, w]
      | out => trivial
      | ok cm z3 =>
        rw [y3] at w
        obtain ⟨w, h3⟩ := w
        refine ⟨?_, h3⟩
        rw [eN]
        simp [-x_eMeth, -x_eAtt, B_65, m1, r1, ss, w]
end

end
section
open PySem L2 DL
/-! ### braces; the whole -/
theorem cNotIn_sp (w : Str) : cNotIn (.str w) (.tup [.str "select", .str "plural"]) = some (.bl (!decide (w ∈ (["select", "plural"] : List Str)))) := by
  unfold cNotIn
  have e : ([.str "select", .str "plural"] : List D) = (["select", "plural"] : List Str).map D.str := rfl
  rw [e]
  show (if flatD (.str w) = true ∧ ((["select", "plural"] : List Str).map D.str).all flatD = true then some (inF (.str w) ((["select", "plural"] : List Str).map D.str)) else none).map (fun k => D.bl (!k)) = _
  rw [if_pos ⟨rfl, flat_strs _⟩, inF_strs]; rfl
section
variable {A : List D} {t : Str} {r : List Nat} {b ins : Bool}
theorem w_braces (n : Nat) (M : Bool → List Nat → PR (List Nd)) (hl : t.length < 900000) (h : Suf t r) (HM : HMsg A t ins (n + 4) M) :
    Ans A t ins eN (run (n + 6) 66 [.ptr A.length] (A ++ [rd t (pp t r) ins])) (pBraces ins M r) := by
  rw [show n + 6 = (n + 5) + 1 from rfl, run_66]
  have r1 := w_expect (A := A) (b := ins) (n + 3) 123 hl h
  replace r1 : Ans A t ins eU (run (n + 5) 59 [.ptr A.length, .str (sg 123)] (A ++ [rd t (pp t r) ins])) (pExpect 123 r) := r1
  rw [← q_ob] at r1
  have m1 := meth_rd (A := A) (t := t) (p := pp t r) (b := ins) 0 (Γ := [.val (.ptr A.length), .non, .non, .non]) (F := run (n + 5) 59) (α := aCons (eC (.str "{")) aNil) rfl nm_expect
  unfold pBraces
  cases y1 : pExpect 123 r with
  | tok k => rw [y1] at r1; obtain ⟨p, b', r1⟩ := r1; refine ⟨p, b', ?_⟩; simp [-x_eMeth, -x_eAtt, -x_sAttA, B_66, m1, r1]
  | fin => rw [y1] at r1; obtain ⟨p, b', r1⟩ := r1; refine ⟨p, b', ?_⟩; simp [-x_eMeth, -x_eAtt, -x_sAttA, B_66, m1, r1]
  | out => trivial
  | ok u z1 =>
    rw [y1] at r1
    obtain ⟨r1, h1⟩ := r1
    rw [PR.bind_ok]
    have r2 := w_word (A := A) (b := ins) (n + 2) hl h1
    replace r2 : Ans A t ins (eW t) (run (n + 5) 61 [.ptr A.length] (A ++ [rd t (pp t z1) ins])) (pWord z1) := r2
    have m2 := meth_rd (A := A) (t := t) (p := pp t z1) (b := ins) 0 (Γ := [.val (.ptr A.length), .non, .non, .non]) (F := run (n + 5) 61) (α := aNil) rfl nm_word
    cases y2 : pWord z1 with
    | tok k => rw [y2] at r2; obtain ⟨p, b', r2⟩ := r2; refine ⟨p, b', ?_⟩; simp [-x_eMeth, -x_eAtt, -x_sAttA, B_66, m1, r1, m2, r2]
    | fin => rw [y2] at r2; obtain ⟨p, b', r2⟩ := r2; refine ⟨p, b', ?_⟩; simp [-x_eMeth, -x_eAtt, -x_sAttA, B_66, m1, r1, m2, r2]
    | out => trivial
    | ok w z2 =>
      rw [y2] at r2
      obtain ⟨r2, h2⟩ := r2
      rw [PR.bind_ok]
      unfold eW at r2
      obtain ⟨nm, bg⟩ := w
      simp only at r2 ⊢
      generalize ((t.length - bg : Nat) : Int) = i1 at *
      have r3 := w_skip (A := A) (b := ins) (n + 4) hl h2
      replace r3 : run (n + 5) 58 [.ptr A.length] (A ++ [rd t (pp t z2) ins]) = _ := r3
      have m3 := meth_rd (A := A) (t := t) (p := pp t z2) (b := ins) 0 (Γ := [.val (.ptr A.length), .val (.str nm), .val (.int i1), .non]) (F := run (n + 5) 58) (α := aNil) rfl nm_skip
      have h3 := suf_skip h2
      generalize pSkip z2 = q at *
      have m4 := meth_rd (A := A) (t := t) (p := pp t q) (b := ins) 0 (Γ := [.val (.ptr A.length), .val (.str nm), .val (.int i1), .non]) (F := run (n + 5) 57) (α := aNil) rfl nm_sign
      cases q with
      | nil =>
        have r4 := w_sign0 (A := A) (b := ins) (n + 4) hl
        replace r4 : run (n + 5) 57 [.ptr A.length] (A ++ [rd t (pp t []) ins]) = _ := r4
        refine ⟨pp t [], ins, ?_⟩
        simp [-x_eMeth, -x_eAtt, -x_sAttA, B_66, m1, r1, m2, r2, m3, r3, m4, r4]
      | cons c q =>
        have r4 := w_sign (A := A) (b := ins) (n + 4) hl h3
        replace r4 : run (n + 5) 57 [.ptr A.length] (A ++ [rd t (pp t (c :: q)) ins]) = _ := r4
        have e1 := sg_ne (c := c) (d := 125)
        rw [← q_cb] at e1
        simp only
        by_cases c1 : c = 125
        · rw [if_pos c1]
          rw [decide_eq_true c1] at e1
          have ad := add_place (A := A) (t := t) (p := pp t (c :: q)) (b := ins) 0 (Γ := [.val (.ptr A.length), .val (.str nm), .val (.int i1), .non]) rfl (e := eC (.int 1)) (k := 1) (fun _ => rfl)
          rw [pp_cons h3] at ad
          refine ⟨?_, h3.tail⟩
          rw [eN]
          simp [-x_eMeth, -x_eAtt, -x_sAttA, B_66, m1, r1, m2, r2, m3, r3, m4, r4, e1, ad]
        · rw [if_neg c1]
          rw [decide_eq_false c1] at e1
          have r5 := w_expect (A := A) (b := ins) (n + 3) 44 hl h3
          replace r5 : Ans A t ins eU (run (n + 5) 59 [.ptr A.length, .str (sg 44)] (A ++ [rd t (pp t (c :: q)) ins])) (pExpect 44 (c :: q)) := r5
          rw [← q_co] at r5
          have m5 := meth_rd (A := A) (t := t) (p := pp t (c :: q)) (b := ins) 0 (Γ := [.val (.ptr A.length), .val (.str nm), .val (.int i1), .non]) (F := run (n + 5) 59) (α := aCons (eC (.str ",")) aNil) rfl nm_expect
          cases y5 : pExpect 44 (c :: q) with
          | tok k => rw [y5] at r5; obtain ⟨p, b', r5⟩ := r5; refine ⟨p, b', ?_⟩; simp [-x_eMeth, -x_eAtt, -x_sAttA, B_66, m1, r1, m2, r2, m3, r3, m4, r4, e1, m5, r5]
          | fin => rw [y5] at r5; obtain ⟨p, b', r5⟩ := r5; refine ⟨p, b', ?_⟩; simp [-x_eMeth, -x_eAtt, -x_sAttA, B_66, m1, r1, m2, r2, m3, r3, m4, r4, e1, m5, r5]
          | out => trivial
          | ok u5 z5 =>
            rw [y5] at r5
            obtain ⟨r5, h5⟩ := r5
            rw [PR.bind_ok]
            have r6 := w_word (A := A) (b := ins) (n + 2) hl h5
            replace r6 : Ans A t ins (eW t) (run (n + 5) 61 [.ptr A.length] (A ++ [rd t (pp t z5) ins])) (pWord z5) := r6
            have m6 := meth_rd (A := A) (t := t) (p := pp t z5) (b := ins) 0 (Γ := [.val (.ptr A.length), .val (.str nm), .val (.int i1), .non]) (F := run (n + 5) 61) (α := aNil) rfl nm_word
            cases y6 : pWord z5 with
            | tok k => rw [y6] at r6; obtain ⟨p, b', r6⟩ := r6; refine ⟨p, b', ?_⟩; simp [-x_eMeth, -x_eAtt, -x_sAttA, B_66, m1, r1, m2, r2, m3, r3, m4, r4, e1, m5, r5, m6, r6]
            | fin => rw [y6] at r6; obtain ⟨p, b', r6⟩ := r6; refine ⟨p, b', ?_⟩; simp [-x_eMeth, -x_eAtt, -x_sAttA, B_66, m1, r1, m2, r2, m3, r3, m4, r4, e1, m5, r5, m6, r6]
            | out => trivial
            | ok w z6 =>
              rw [y6] at r6
              obtain ⟨r6, h6⟩ := r6
              rw [PR.bind_ok]
              unfold eW at r6
              obtain ⟨k, bk⟩ := w
              simp only at r6 ⊢
              have ch : ∀ plu : Bool, k = kd plu → Ans A t ins eN (B_66 (run (n + 5)) [.ptr A.length] (A ++ [rd t (pp t r) ins])) (pChoice plu ins M nm z6) := fun plu hk => by
                have r7 := w_choice (A := A) n plu M nm hl h6 HM
                rw [← hk] at r7
                have m7 := meth_rd (A := A) (t := t) (p := pp t z6) (b := ins) 0 (Γ := [.val (.ptr A.length), .val (.str nm), .val (.int ((t.length - bk : Nat) : Int)), .val (.str k)]) (F := run (n + 5) 65) (α := aCons (eV 1) (aCons (eV 3) aNil)) rfl nm_choice
                have cn : cNotIn (.str k) (.tup [.str "select", .str "plural"]) = some (.bl false) := by rw [cNotIn_sp, hk, show decide (kd plu ∈ (["select", "plural"] : List Str)) = true by cases plu <;> decide +kernel]; rfl
                generalize ((t.length - bk : Nat) : Int) = i2 at *
                cases y7 : pChoice plu ins M nm z6 with
                | tok k => rw [y7] at r7; obtain ⟨p, b', r7⟩ := r7; refine ⟨p, b', ?_⟩; simp [-x_eMeth, -x_eAtt, -x_sAttA, B_66, m1, r1, m2, r2, m3, r3, m4, r4, e1, m5, r5, m6, r6, cn, m7, r7]
                | fin => rw [y7] at r7; obtain ⟨p, b', r7⟩ := r7; refine ⟨p, b', ?_⟩; simp [-x_eMeth, -x_eAtt, -x_sAttA, B_66, m1, r1, m2, r2, m3, r3, m4, r4, e1, m5, r5, m6, r6, cn, m7, r7]
                | out => trivial
                | ok nd z7 =>
                  rw [y7] at r7
                  obtain ⟨r7, h7⟩ := r7
                  refine ⟨?_, h7⟩
                  simp [-x_eMeth, -x_eAtt, -x_sAttA, B_66, m1, r1, m2, r2, m3, r3, m4, r4, e1, m5, r5, m6, r6, cn, m7, r7]
              by_cases k1 : k = "select"
              · rw [if_pos k1]; exact ch false k1
              · rw [if_neg k1]
                by_cases k2 : k = "plural"
                · rw [if_pos k2]; exact ch true k2
                · rw [if_neg k2]
                  refine ⟨pp t z6, ins, ?_⟩
                  have cn : cNotIn (.str k) (.tup [.str "select", .str "plural"]) = some (.bl true) := by
                    rw [cNotIn_sp, decide_eq_false (fun z => by rcases List.mem_cons.mp z with z | z; exact k1 z; exact k2 (List.mem_singleton.mp z))]; rfl
                  have sh : shOk (.int ((t.length - bk : Nat) : Int)) = true := sh_nat (by omega)
                  unfold tokX
                  generalize ((t.length - bk : Nat) : Int) = i2 at *
                  simp [-x_eMeth, -x_eAtt, -x_sAttA, B_66, m1, r1, m2, r2, m3, r3, m4, r4, e1, m5, r5, m6, r6, cn, sh]
theorem w_msg (hl : t.length < 900000) : ∀ (n : Nat) (b : Bool), HMsg A t b (4 * n + 6) (pMsg n)
  | 0, b => fun i r h => trivial
  | n + 1, b => fun i r h => by
    rw [show 4 * (n + 1) + 6 = (4 * n + 9) + 1 by omega]
    refine w_message (4 * n + 9) (pNode i (pMsg n)) hl h fun r hr => ?_
    rw [show 4 * n + 9 = (4 * n + 6) + 3 by omega]
    refine w_node (4 * n + 6) (pMsg n) hl hr fun r hr => ?_
    rw [show 4 * n + 6 + 2 = (4 * n + 2) + 6 by omega]
    exact w_braces (4 * n + 2) (pMsg n) hl hr (w_msg hl n i)
end
theorem run_init (n : Nat) (t : Str) (A : List D) : run (n + 1) 56 [.ptr A.length, .str t] (A ++ [.ins 21 [] []]) = .ok .non (A ++ [rd t 0 false]) := by
  rw [run_56]
  have g1 : ga_text 21 = true := rfl
  have g2 : ga_place 21 = true := rfl
  have g3 : ga_inside 21 = true := rfl
  have n1 : ¬ ("text" : Str) = "place" := by decide +kernel
  have n2 : ¬ ("text" : Str) = "inside" := by decide +kernel
  have n3 : ¬ ("place" : Str) = "inside" := by decide +kernel
  have sc := set_cc A
  simp [B_56, g1, g2, g3, sc, putD, n1, n2, n3, rd]
/-- what parse_message comes to -/
def AnsP (A : List D) (t : Str) (res : Res D) : PR (List Nd) → Prop
  | .ok m _ => ∃ p b, res = .ok (eM m) (A ++ [rd t p b])
  | .tok k => ∃ p b, res = .exc (tokX (t.length - k)) (A ++ [rd t p b])
  | .fin => ∃ p b, res = .exc finX (A ++ [rd t p b])
  | .out => True
theorem w_parse (n : Nat) (t : Str) (A : List D) (hl : t.length < 900000) (HP : ∀ m S, pMsg n false t.cps.toList = .ok m [] → run (4 * n + 6) 5 [eM m] S = .ok (eM (plA [] m)) S) :
    AnsP A t (run (4 * n + 7) 70 [.str t] A) (pParse n t.cps.toList) := by
  rw [show 4 * n + 7 = (4 * n + 6) + 1 from rfl, run_70]
  have hs : Suf t t.cps.toList := List.suffix_rfl
  have p0 : pp t t.cps.toList = 0 := by unfold pp; rw [len_cps]; omega
  have r0 := run_init (4 * n + 5) t A
  replace r0 : run (4 * n + 6) 56 [.ptr A.length, .str t] (A ++ [.ins 21 [] []]) = _ := r0
  have r1 := w_msg (A := A) hl n false false t.cps.toList hs
  rw [p0] at r1
  have m1 := meth_rd (A := A) (t := t) (p := 0) (b := false) 1 (Γ := [.val (.str t), .val (.ptr A.length), .non]) (F := run (4 * n + 6) 69) (α := aCons (eC (.bl false)) aNil) rfl nm_message
  have ni : DL.isNon D.non = true := rfl
  unfold pParse
  cases y : pMsg n false t.cps.toList with
  | tok k => rw [y] at r1; obtain ⟨p, b', r1⟩ := r1; refine ⟨p, b', ?_⟩; simp [-x_eMeth, -x_eAtt, -x_sAttA, B_70, r0, ni, m1, r1]
  | fin => rw [y] at r1; obtain ⟨p, b', r1⟩ := r1; refine ⟨p, b', ?_⟩; simp [-x_eMeth, -x_eAtt, -x_sAttA, B_70, r0, ni, m1, r1]
  | out => trivial
  | ok m z =>
    rw [y] at r1
    obtain ⟨r1, hz⟩ := r1
    rw [PR.bind_ok]
    have a1 := at_place (A := A) (t := t) (p := pp t z) (b := false) 1 (Γ := [.val (.str t), .val (.ptr A.length), .val (eM m)]) rfl
    have i2 := dLen_s (sz_of hl)
    have hn := hz.len
    by_cases c : z = []
    · rw [if_pos c]
      subst c
      have c1 : ¬ ((pp t [] : Nat) : Int) < (t.length : Int) := by unfold pp; simp
      have hp := HP m (A ++ [rd t (pp t []) false]) y
      refine ⟨pp t [], false, ?_⟩
      generalize ((pp t [] : Nat) : Int) = i1 at *
      simp [-x_eMeth, -x_eAtt, -x_sAttA, B_70, r0, ni, m1, r1, a1, i2, c1, hp]
    · rw [if_neg c]
      have c1 : ((pp t z : Nat) : Int) < (t.length : Int) := by
        have : z.length ≠ 0 := fun q => c (List.eq_nil_of_length_eq_zero q)
        unfold pp; omega
      have sh := sh_pp hl z
      refine ⟨pp t z, false, ?_⟩
      unfold tokX
      rw [show ((t.length - z.length : Nat) : Int) = ((pp t z : Nat) : Int) from rfl]
      generalize ((pp t z : Nat) : Int) = i1 at *
      simp [-x_eMeth, -x_eAtt, -x_sAttA, B_70, r0, ni, m1, r1, a1, i2, c1, sh]

end
section
open PySem L2 DL
/-! ### what is written is read: on lists of signs -/
def Gap (g : List Nat) : Prop := ∀ c ∈ g, inW spW c = true
theorem sp_eq : spW.cps.toList = [32, 10] := by decide +kernel
theorem lt_eq : LT.cps.toList = [97, 98, 99, 100, 101, 102, 103, 104, 105, 106, 107, 108, 109, 110, 111, 112, 113, 114, 115, 116, 117, 118, 119, 120, 121, 122] := by decide +kernel
theorem fg_eq : FG.cps.toList = [48, 49, 50, 51, 52, 53, 54, 55, 56, 57] := by decide +kernel
theorem es_eq : ES.cps.toList = [123, 125, 35, 39] := by decide +kernel
theorem inSp {c : Nat} : inW spW c = decide (c = 32 ∨ c = 10) := by unfold inW; rw [sp_eq]; simp
theorem inLt {c : Nat} : inW LT c = decide (97 ≤ c ∧ c ≤ 122) := by
  unfold inW; rw [lt_eq]
  refine decide_eq_decide.mpr ?_
  simp only [List.mem_cons, List.not_mem_nil, or_false]
  omega
theorem inFg {c : Nat} : inW FG c = decide (48 ≤ c ∧ c ≤ 57) := by
  unfold inW; rw [fg_eq]
  refine decide_eq_decide.mpr ?_
  simp only [List.mem_cons, List.not_mem_nil, or_false]
  omega
theorem inEs {c : Nat} : inW ES c = decide (c = 123 ∨ c = 125 ∨ c = 35 ∨ c = 39) := by unfold inW; rw [es_eq]; simp
theorem dw_app {f : Nat → Bool} {a r : List Nat} (h : ∀ c ∈ a, f c = true) : (a ++ r).dropWhile f = r.dropWhile f := by
  induction a with
  | nil => rfl
  | cons c a ih =>
    rw [List.cons_append, List.dropWhile_cons, if_pos (h c List.mem_cons_self)]
    exact ih fun x hx => h x (List.mem_cons_of_mem _ hx)
theorem tw_app {f : Nat → Bool} {a r : List Nat} (h : ∀ c ∈ a, f c = true) (hr : ∀ c, r.head? = some c → f c = false) : (a ++ r).takeWhile f = a := by
  induction a with
  | nil =>
    cases r with
    | nil => rfl
    | cons c r => rw [List.nil_append, List.takeWhile_cons, if_neg (by rw [hr c rfl]; decide)]
  | cons c a ih =>
    rw [List.cons_append, List.takeWhile_cons, if_pos (h c List.mem_cons_self), ih fun x hx => h x (List.mem_cons_of_mem _ hx)]
theorem dw_stop {f : Nat → Bool} {r : List Nat} (hr : ∀ c, r.head? = some c → f c = false) : r.dropWhile f = r := by
  cases r with
  | nil => rfl
  | cons c r => rw [List.dropWhile_cons, if_neg (by rw [hr c rfl]; decide)]
theorem skip_gap {g r : List Nat} (h : Gap g) (hr : ∀ c, r.head? = some c → inW spW c = false) : pSkip (g ++ r) = r := by
  unfold pSkip; rw [dw_app h, dw_stop hr]
theorem expect_gap {g r : List Nat} {c : Nat} (h : Gap g) (hc : inW spW c = false) : pExpect c (g ++ c :: r) = .ok () r := by
  unfold pExpect
  rw [skip_gap h (fun d hd => by cases hd; exact hc)]
  exact if_pos rfl
structure WdOk (x : Str) : Prop where
  l1 : 1 ≤ x.length
  l8 : x.length ≤ 8
  lt : ∀ c ∈ x.cps.toList, inW LT c = true
def wdB (x : Str) : Bool := decide (1 ≤ x.length) && decide (x.length ≤ 8) && x.cps.toList.all (fun c => inW LT c)
theorem wdB_ok {x : Str} (h : wdB x = true) : WdOk x := by
  unfold wdB at h
  simp only [Bool.and_eq_true, decide_eq_true_eq, List.all_eq_true] at h
  exact ⟨h.1.1, h.1.2, h.2⟩
theorem mkS_cps (x : Str) : mkS x.cps.toList = x := rfl
theorem lt_sp {c : Nat} (h : inW LT c = true) : inW spW c = false := by
  rw [inLt] at h; rw [inSp]
  have := of_decide_eq_true h
  exact decide_eq_false (by omega)
theorem WdOk.ne {x : Str} (h : WdOk x) : x.cps.toList ≠ [] := fun z => by
  have := h.l1
  rw [← len_cps, z] at this
  exact absurd this (by decide)
theorem WdOk.head {x : Str} (h : WdOk x) (r : List Nat) : ∀ c, (x.cps.toList ++ r).head? = some c → inW LT c = true := fun c hc => by
  cases q : x.cps.toList with
  | nil => exact absurd q h.ne
  | cons d y =>
    rw [q] at hc
    cases hc
    exact h.lt _ (by rw [q]; exact List.mem_cons_self)
theorem word_gap {g r : List Nat} {x : Str} (h : Gap g) (hx : WdOk x) (hr : ∀ c, r.head? = some c → inW LT c = false) : pWord (g ++ (x.cps.toList ++ r)) = .ok (x, (x.cps.toList ++ r).length) r := by
  unfold pWord
  rw [skip_gap h (fun c hc => lt_sp (hx.head r c hc)), tw_app hx.lt hr, if_neg hx.ne, if_pos (by rw [len_cps]; exact hx.l8), dw_app hx.lt, dw_stop hr, mkS_cps]
theorem word_at {r : List Nat} {x : Str} (hx : WdOk x) (hr : ∀ c, r.head? = some c → inW LT c = false) : pWord (x.cps.toList ++ r) = .ok (x, (x.cps.toList ++ r).length) r := word_gap (g := []) (fun c hc => by cases hc) hx hr
/-! numbers -/
theorem nt_list {i : Nat} (h : i ≤ 999) : (∀ c ∈ (nt i).cps.toList, inW FG c = true) ∧ (nt i).cps.toList ≠ [] ∧ (nt i).cps.toList.length ≤ 3 ∧ nmV (nt i).cps.toList = i ∧ ((nt i).cps.toList.head? = some 48 → (nt i).cps.toList = [48]) := by
  have ok := nt_ok h
  have a : ∀ c ∈ (nt i).cps.toList, inW FG c = true := fun c hc => decide_eq_true (ok.fg c hc)
  have b : (nt i).cps.toList ≠ [] := fun z => by
    have := ok.l1
    rw [← len_cps, z] at this
    exact absurd this (by decide)
  have c : (nt i).cps.toList.length ≤ 3 := by rw [len_cps]; exact ok.l3
  refine ⟨a, b, c, ?_, fun hh => ?_⟩
  · have e := dg_it a b c
    rw [mkS_cps, ok.it] at e
    have := Option.some.inj e
    omega
  · obtain ⟨d, hd, hz⟩ := ok.z
    unfold cAt at hd
    rw [← List.head?_eq_getElem?, hh] at hd
    cases hd
    rcases hz with z | z
    · exact absurd rfl z
    · rw [z]; decide +kernel
theorem nat_read {i m : Nat} {r : List Nat} (hi : i ≤ m) (hm : m ≤ 999) (hr : ∀ c, r.head? = some c → inW FG c = false) : pNat m ((nt i).cps.toList ++ r) = .ok i r := by
  obtain ⟨a, b, c, d, e⟩ := nt_list (i := i) (by omega)
  unfold pNat
  rw [tw_app a hr, if_neg b, if_pos ⟨c, e, by rw [d]; exact hi⟩, dw_app a, dw_stop hr, d]
/-! keys -/
def kC : Ky → List Nat
  | .i n => 61 :: (nt n.toNat).cps.toList
  | .s x => x.cps.toList
def kOkP (plu : Bool) : Ky → Prop
  | .i n => plu = true ∧ ∃ i : Nat, n = (i : Int) ∧ i ≤ 999
  | .s x => WdOk x ∧ x ≠ "other" ∧ (plu = true → x ∈ catL)
theorem oth_wd : WdOk "other" := wdB_ok (by decide +kernel)
theorem key_word {plu : Bool} {g r : List Nat} {x : Str} (hg : Gap g) (hx : WdOk x) (hc : plu = true → x ∈ catL ∨ x = "other") (hr : ∀ c, r.head? = some c → inW LT c = false) : pKey plu (g ++ (x.cps.toList ++ r)) = .ok (.s x, (x.cps.toList ++ r).length) r := by
  unfold pKey
  rw [skip_gap hg (fun c hc => lt_sp (hx.head r c hc)), if_neg (fun z => by
    have := hx.head r 61 z.2
    rw [inLt] at this
    exact absurd this (by decide)), word_at hx hr, PR.bind_ok, if_neg (fun z => by
    rcases hc z.1 with h | h
    · exact z.2.1 h
    · exact z.2.2 h)]
theorem key_read {plu : Bool} {g r : List Nat} {k : Ky} (hg : Gap g) (hk : kOkP plu k) (hr : ∀ c, r.head? = some c → inW LT c = false ∧ inW FG c = false) : pKey plu (g ++ (kC k ++ r)) = .ok (k, (kC k ++ r).length) r := by
  cases k with
  | i n =>
    obtain ⟨rfl, i, rfl, hi⟩ := hk
    unfold pKey kC
    rw [skip_gap hg (fun c hc => by cases hc; decide +kernel), if_pos ⟨rfl, rfl⟩]
    show (pNat 999 ((nt ((i : Int).toNat)).cps.toList ++ r)).bind _ = _
    rw [Int.toNat_natCast, nat_read hi (Nat.le_refl _) fun c hc => (hr c hc).2]
    rfl
  | s x =>
    obtain ⟨h1, h2, h3⟩ := hk
    exact key_word hg h1 (fun z => .inl (h3 z)) fun c hc => (hr c hc).1
/-! one sign -/
theorem escC_l (c : Nat) : (escC c).cps.toList = if c = 39 then [39, 39] else if inW ES c = true then [39, c, 39] else [c] := by
  unfold escC
  by_cases h : c = 39
  · rw [if_pos h, if_pos h]; decide +kernel
  · rw [if_neg h, if_neg h]
    by_cases m : c ∈ ES.cps.toList
    · rw [if_pos m, if_pos (show inW ES c = true from decide_eq_true m)]
      rw [q_ap]; rfl
    · rw [if_neg m, if_neg (fun z : inW ES c = true => m (of_decide_eq_true z))]; rfl
theorem node_sign {ins : Bool} {M : Bool → List Nat → PR (List Nd)} {c : Nat} (h : sgnOk c = true) (r : List Nat) : pNode ins M ((escC c).cps.toList ++ r) = .ok (.text (sg c)) r := by
  rw [escC_l]
  by_cases a : c = 39
  · subst a
    rw [if_pos rfl]
    show pNode ins M (39 :: 39 :: r) = _
    rw [pNode, if_neg (by decide), if_pos rfl]
    simp only [pEscs, escC_l, inEs]
    simp [List.isPrefixOf, escC_len]
    rfl
  · rw [if_neg a]
    by_cases m : inW ES c = true
    · rw [if_pos m]
      rw [inEs] at m
      have m' := of_decide_eq_true m
      have l3 : ∀ d, d ≠ 39 → inW ES d = true → (escC d).length = 3 := fun d hd he => by
        rw [← len_cps, escC_l, if_neg hd, if_pos he]; rfl
      show pNode ins M (39 :: c :: 39 :: r) = _
      rw [pNode, if_neg (by decide), if_pos rfl]
      rcases m' with rfl | rfl | rfl | rfl
      · have := l3 123 (by decide) (by rw [inEs]; decide)
        simp [pEscs, escC_l, inEs, List.isPrefixOf, this]
      · have := l3 125 (by decide) (by rw [inEs]; decide)
        simp [pEscs, escC_l, inEs, List.isPrefixOf, this]
      · have := l3 35 (by decide) (by rw [inEs]; decide)
        simp [pEscs, escC_l, inEs, List.isPrefixOf, this]
      · exact absurd rfl a
    · rw [if_neg m]
      have m' := m
      rw [inEs] at m'
      have ne : ¬ (c = 123 ∨ c = 125 ∨ c = 35 ∨ c = 39) := fun z => m' (decide_eq_true z)
      show pNode ins M (c :: r) = _
      rw [pNode, if_neg (by omega), if_neg (by omega), if_neg (fun z => ne (.inr (.inr (.inl z.1)))), if_neg (fun z => by
        rcases z with z | z
        · exact m z
        · rw [h] at z; cases z)]
theorem escC_head {c : Nat} (r : List Nat) : (escC c).cps.toList ++ r ≠ [] ∧ ((escC c).cps.toList ++ r).head? ≠ some 125 := by
  rw [escC_l]
  split
  · exact ⟨List.cons_ne_nil _ _, by simp⟩
  · split
    · exact ⟨List.cons_ne_nil _ _, by simp⟩
    · rename_i m
      refine ⟨List.cons_ne_nil _ _, fun z => m ?_⟩
      have z' : c = 125 := Option.some.inj z
      rw [z', inEs]; decide
theorem mkS_app (a b : List Nat) : mkS a ++ mkS b = mkS (a ++ b) := by
  show (⟨a.toArray ++ b.toArray⟩ : Str) = ⟨(a ++ b).toArray⟩
  rw [List.append_toArray]
/-! messages -/
def escT : List Nat → List Nat
  | [] => []
  | c :: r => (escC c).cps.toList ++ escT r
theorem escL_T (l : List Nat) : escL l = mkS (escT l) := by
  induction l with
  | nil => rfl
  | cons c r ih => rw [escL, escT, ih, ← mkS_app]; rfl
mutual
def vN : Bool → Nd → Prop
  | _, .text x => ∀ c ∈ x.cps.toList, sgnOk c = true
  | _, .shw n => WdOk n
  | ins, .num => ins = true
  | ins, .sel n cs o => WdOk n ∧ (∀ c ∈ cs, kOkP false (cKey c)) ∧ (cs.map cKey).Nodup ∧ vCs ins cs ∧ vL ins o
  | _, .plu n f cs o => WdOk n ∧ (∃ i : Nat, f = (i : Int) ∧ i ≤ 9) ∧ (∀ c ∈ cs, kOkP true (cKey c)) ∧ (cs.map cKey).Nodup ∧ vCs true cs ∧ vL true o
def vL : Bool → List Nd → Prop
  | _, [] => True
  | ins, n :: r => vN ins n ∧ vL ins r
def vC : Bool → Cs → Prop
  | ins, .mk _ m => vL ins m
def vCs : Bool → List Cs → Prop
  | _, [] => True
  | ins, c :: r => vC ins c ∧ vCs ins r
end
/-- the notation of the offset, behind a gap -/
def offW (f : Int) (w : List Nat) : Prop := (f = 0 ∧ w = []) ∨ (f ≠ 0 ∧ ∃ g, Gap g ∧ w = g ++ OF.cps.toList ++ (nt f.toNat).cps.toList)
/-- not empty -/
def Gap1 (g : List Nat) : Prop := Gap g ∧ g ≠ []
def othW (h1 h2 h3 a : List Nat) : List Nat := h1 ++ (("other" : Str).cps.toList ++ (h2 ++ (123 :: (a ++ (125 :: (h3 ++ [125]))))))
mutual
def WrN : Nd → List Nat → Prop
  | .text x, w => w = escT x.cps.toList
  | .shw n, w => ∃ g1 g2, Gap g1 ∧ Gap g2 ∧ w = 123 :: (g1 ++ (n.cps.toList ++ (g2 ++ [125])))
  | .num, w => w = [35]
  | .sel n cs o, w => ∃ g1 g2 g3 g4 c h1 h2 h3 a, Gap g1 ∧ Gap g2 ∧ Gap g3 ∧ Gap g4 ∧ WrCs cs c ∧ Gap1 h1 ∧ Gap h2 ∧ Gap h3 ∧ WrL o a ∧ w = 123 :: (g1 ++ (n.cps.toList ++ (g2 ++ (44 :: (g3 ++ (("select" : Str).cps.toList ++ (g4 ++ (44 :: (c ++ othW h1 h2 h3 a)))))))))
  | .plu n f cs o, w => ∃ g1 g2 g3 g4 x c h1 h2 h3 a, Gap g1 ∧ Gap g2 ∧ Gap g3 ∧ Gap g4 ∧ offW f x ∧ WrCs cs c ∧ Gap1 h1 ∧ Gap h2 ∧ Gap h3 ∧ WrL o a ∧ w = 123 :: (g1 ++ (n.cps.toList ++ (g2 ++ (44 :: (g3 ++ (("plural" : Str).cps.toList ++ (g4 ++ (44 :: (x ++ (c ++ othW h1 h2 h3 a))))))))))
def WrL : List Nd → List Nat → Prop
  | [], w => w = []
  | n :: r, w => ∃ a b, WrN n a ∧ WrL r b ∧ w = a ++ b
def WrC : Cs → List Nat → Prop
  | .mk k m, w => ∃ g1 g2 a, Gap1 g1 ∧ Gap g2 ∧ WrL m a ∧ w = g1 ++ (kC k ++ (g2 ++ (123 :: (a ++ [125]))))
def WrCs : List Cs → List Nat → Prop
  | [], w => w = []
  | c :: cs, w => ∃ a b, WrC c a ∧ WrCs cs b ∧ w = a ++ b
end
/-! what is read: texts cut into single signs -/
def cutT (l : List Nat) : List Nd := l.map fun c => .text (sg c)
mutual
def cutN : Nd → List Nd
  | .text x => cutT x.cps.toList
  | .shw n => [.shw n]
  | .num => [.num]
  | .sel n cs o => [.sel n (cutCs cs) (cutL o)]
  | .plu n f cs o => [.plu n f (cutCs cs) (cutL o)]
def cutL : List Nd → List Nd
  | [] => []
  | n :: r => cutN n ++ cutL r
def cutC : Cs → Cs
  | .mk k m => .mk k (cutL m)
def cutCs : List Cs → List Cs
  | [] => []
  | c :: r => cutC c :: cutCs r
end
/-- N reads w as the nodes ns, whatever follows -/
def Reads (N : List Nat → PR Nd) (w : List Nat) (ns : List Nd) : Prop := ns.length ≤ w.length ∧ ∀ f acc r, pNodes N (f + ns.length) acc (w ++ r) = pNodes N f (acc ++ ns) r
theorem Reads.nil (N : List Nat → PR Nd) : Reads N [] [] := ⟨Nat.le_refl _, fun f acc r => by rw [List.append_nil]; rfl⟩
theorem Reads.app {N : List Nat → PR Nd} {w w' : List Nat} {ns ns' : List Nd} (h : Reads N w ns) (h' : Reads N w' ns') : Reads N (w ++ w') (ns ++ ns') :=
  ⟨by rw [List.length_append, List.length_append]; exact Nat.add_le_add h.1 h'.1, fun f acc r => by
    rw [List.length_append, show f + (ns.length + ns'.length) = (f + ns'.length) + ns.length by omega, List.append_assoc, h.2, h'.2, List.append_assoc]⟩
theorem Reads.one {N : List Nat → PR Nd} {w : List Nat} {nd : Nd} (h1 : ∀ r, w ++ r ≠ [] ∧ (w ++ r).head? ≠ some 125) (h2 : ∀ r, N (w ++ r) = .ok nd r) : Reads N w [nd] :=
  ⟨by
    have := (h1 []).1
    rw [List.append_nil] at this
    exact List.length_pos_iff.mpr this, fun f acc r => by
    rw [show f + [nd].length = f + 1 from rfl, pNodes, if_neg (fun z => by rcases z with z | z; exact (h1 r).1 z; exact (h1 r).2 z), h2, PR.bind_ok]⟩
theorem reads_text {ins : Bool} {M : Bool → List Nat → PR (List Nd)} : ∀ (l : List Nat), (∀ c ∈ l, sgnOk c = true) → Reads (pNode ins M) (escT l) (cutT l)
  | [], _ => Reads.nil _
  | c :: r, h => by
    rw [escT, cutT, List.map_cons]
    exact (Reads.one (fun r => escC_head r) (fun r => node_sign (h c List.mem_cons_self) r)).app (reads_text r fun x hx => h x (List.mem_cons_of_mem _ hx))
/-- the end of a message -/
theorem Reads.msg {N : List Nat → PR Nd} {w : List Nat} {ns : List Nd} (h : Reads N w ns) {r : List Nat} (hr : r = [] ∨ r.head? = some 125) : pNodes N ((w ++ r).length + 1) [] (w ++ r) = .ok ns r := by
  obtain ⟨k, hk⟩ : ∃ k, (w ++ r).length + 1 = k + 1 + ns.length := ⟨(w ++ r).length - ns.length, by rw [List.length_append]; have := h.1; omega⟩
  rw [hk, h.2, List.nil_append, pNodes, if_pos hr]

end
section
open PySem L2 DL
/-! ### what is written is read: choices and messages -/
theorem head_gap {g r : List Nat} {d : Nat} (hg : Gap g) (hd : inW LT d = false ∧ inW FG d = false) : ∀ c, (g ++ d :: r).head? = some c → inW LT c = false ∧ inW FG c = false := fun c hc => by
  cases g with
  | nil => cases hc; exact hd
  | cons e g =>
    cases hc
    have := hg c List.mem_cons_self
    rw [inSp] at this
    have h := of_decide_eq_true this
    rw [inLt, inFg]
    exact ⟨decide_eq_false (by omega), decide_eq_false (by omega)⟩
theorem head_gap1 {g r : List Nat} (hg : Gap1 g) : ∀ c, (g ++ r).head? = some c → inW LT c = false ∧ inW FG c = false := fun c hc => by
  cases g with
  | nil => exact absurd rfl hg.2
  | cons e g =>
    have : e :: g ++ r = [] ++ e :: (g ++ r) := rfl
    rw [this] at hc
    have h := hg.1 e List.mem_cons_self
    rw [inSp] at h
    have h := of_decide_eq_true h
    exact head_gap (g := []) (fun c hc => by cases hc) (by rw [inLt, inFg]; exact ⟨decide_eq_false (by omega), decide_eq_false (by omega)⟩) c hc
theorem gap0 : Gap [] := fun c hc => by cases hc
theorem skip_skip (r : List Nat) : pSkip (pSkip r) = pSkip r := by
  unfold pSkip
  refine dw_stop fun c hc => ?_
  cases q : r.dropWhile (inW spW) with
  | nil => rw [q] at hc; cases hc
  | cons d z =>
    rw [q] at hc
    cases hc
    exact head_dw q
theorem key_skip (plu : Bool) (r : List Nat) : pKey plu (pSkip r) = pKey plu r := by unfold pKey; rw [skip_skip]
theorem cases_skip (plu : Bool) (M : List Nat → PR (List Nd)) (f : Nat) (cs : List Cs) (r : List Nat) : pCases plu M f cs (pSkip r) = pCases plu M f cs r := by
  cases f with
  | zero => rfl
  | succ f => rw [pCases, pCases, key_skip]
theorem sp_123 : inW spW 123 = false := by decide +kernel
theorem sp_125 : inW spW 125 = false := by decide +kernel
theorem sp_44 : inW spW 44 = false := by decide +kernel
theorem nl_123 : inW LT 123 = false ∧ inW FG 123 = false := by decide +kernel
theorem nl_44 : inW LT 44 = false ∧ inW FG 44 = false := by decide +kernel
theorem nl_125 : inW LT 125 = false ∧ inW FG 125 = false := by decide +kernel
theorem kC_ne (k : Ky) (plu : Bool) (h : kOkP plu k) : kC k ≠ [] := by
  cases k with
  | i n => exact List.cons_ne_nil _ _
  | s x => exact h.1.ne
theorem kC_sp (k : Ky) (plu : Bool) (h : kOkP plu k) (r : List Nat) : ∀ c, (kC k ++ r).head? = some c → inW spW c = false := fun c hc => by
  cases k with
  | i n => cases hc; decide +kernel
  | s x => exact lt_sp (h.1.head r c hc)
theorem any_key {cs : List Cs} {k : Ky} (h : k ∉ cs.map cKey) : cs.any (fun c => decide (cKey c = k)) = false := by
  rw [List.any_eq_false]
  intro c hc z
  exact h (List.mem_map.mpr ⟨c, hc, of_decide_eq_true z⟩)
theorem cutCs_keys (cs : List Cs) : (cutCs cs).map cKey = cs.map cKey := by
  induction cs with
  | nil => rw [cutCs]
  | cons c r ih => rw [cutCs, List.map_cons, List.map_cons, ih]; cases c; rw [cutC]; rfl
theorem cutCs_len (cs : List Cs) : (cutCs cs).length = cs.length := by
  have := congrArg List.length (cutCs_keys cs)
  simpa using this
theorem cutCs_app (a b : List Cs) : cutCs (a ++ b) = cutCs a ++ cutCs b := by
  induction a with
  | nil => rw [List.nil_append, cutCs]; rfl
  | cons c r ih => rw [List.cons_append, cutCs, cutCs, ih]; rfl
/-- one case -/
theorem case_read {plu : Bool} {M : List Nat → PR (List Nd)} {f : Nat} {cs0 : List Cs} {k : Ky} {m : List Nd} {g1 g2 a r : List Nat} (hg1 : Gap g1) (hg2 : Gap g2) (hk : kOkP plu k) (hn : k ∉ cs0.map cKey) (hM : ∀ r, r.head? = some 125 → M (a ++ r) = .ok m r) :
    pCases plu M (f + 1) cs0 (g1 ++ (kC k ++ (g2 ++ (123 :: (a ++ 125 :: r))))) = pCases plu M f (cs0 ++ [.mk k m]) r := by
  rw [pCases, key_read hg1 hk (head_gap hg2 nl_123), PR.bind_ok]
  simp only
  rw [any_key hn, if_neg (by decide), expect_gap hg2 sp_123, PR.bind_ok, hM _ rfl, PR.bind_ok]
  have e := expect_gap (g := []) (r := r) gap0 sp_125
  rw [List.nil_append] at e
  rw [e, PR.bind_ok, if_neg (fun z => by subst z; exact hk.2.1 rfl)]
theorem oth_read {plu : Bool} {M : List Nat → PR (List Nd)} {f : Nat} {cs0 : List Cs} {m : List Nd} {h1 h2 h3 a r : List Nat} (hh1 : Gap h1) (hh2 : Gap h2) (hh3 : Gap h3) (hn : Ky.s "other" ∉ cs0.map cKey) (hM : ∀ r, r.head? = some 125 → M (a ++ r) = .ok m r) :
    pCases plu M (f + 1) cs0 (othW h1 h2 h3 a ++ r) = .ok (cs0, m) r := by
  have e0 : othW h1 h2 h3 a ++ r = h1 ++ (("other" : Str).cps.toList ++ (h2 ++ (123 :: (a ++ (125 :: (h3 ++ (125 :: r))))))) := by
    unfold othW
    simp only [List.append_assoc, List.cons_append, List.nil_append]
  rw [e0, pCases, key_word hh1 oth_wd (fun _ => .inr rfl) (fun c hc => (head_gap hh2 nl_123 c hc).1), PR.bind_ok]
  simp only
  rw [any_key hn, if_neg (by decide), expect_gap hh2 sp_123, PR.bind_ok, hM _ rfl, PR.bind_ok]
  have e := expect_gap (g := []) (r := h3 ++ 125 :: r) gap0 sp_125
  rw [List.nil_append] at e
  rw [e, PR.bind_ok, if_pos trivial, expect_gap hh3 sp_125, PR.bind_ok]
theorem WrCs_len : ∀ (cs : List Cs) (w : List Nat), WrCs cs w → cs.length ≤ w.length
  | [], _, _ => Nat.zero_le _
  | .mk k m :: cs, w, h => by
    rw [WrCs] at h
    obtain ⟨a, b, ha, hb, rfl⟩ := h
    have := WrCs_len cs b hb
    rw [WrC] at ha
    obtain ⟨g1, g2, x, _, _, _, rfl⟩ := ha
    simp only [List.length_append, List.length_cons]
    omega
theorem skip_len {cs : List Cs} {w : List Nat} {plu : Bool} (h : WrCs cs w) (hk : ∀ c ∈ cs, kOkP plu (cKey c)) (r : List Nat) : cs.length ≤ (pSkip (w ++ r)).length := by
  cases cs with
  | nil => exact Nat.zero_le _
  | cons c cs =>
    obtain ⟨k, m⟩ := c
    rw [WrCs] at h
    obtain ⟨a, b, ha, hb, rfl⟩ := h
    have := WrCs_len cs b hb
    rw [WrC] at ha
    obtain ⟨g1, g2, x, hg1, _, _, rfl⟩ := ha
    have hk1 := hk _ List.mem_cons_self
    rw [List.append_assoc, List.append_assoc, List.append_assoc, skip_gap hg1.1 (kC_sp k plu hk1 _)]
    simp only [List.length_append, List.length_cons]
    omega
theorem off_ne {r : List Nat} {x : Str} (hx : x ∈ catL ∨ x = "other") : OF.cps.toList.isPrefixOf (x.cps.toList ++ r) = false := by
  have e : OF.cps.toList = [111, 102, 102, 115, 101, 116, 58] := by decide +kernel
  rw [e]
  have c1 : ("zero" : Str).cps.toList = [122, 101, 114, 111] := by decide +kernel
  have c2 : ("one" : Str).cps.toList = [111, 110, 101] := by decide +kernel
  have c3 : ("two" : Str).cps.toList = [116, 119, 111] := by decide +kernel
  have c4 : ("few" : Str).cps.toList = [102, 101, 119] := by decide +kernel
  have c5 : ("many" : Str).cps.toList = [109, 97, 110, 121] := by decide +kernel
  have c6 : ("other" : Str).cps.toList = [111, 116, 104, 101, 114] := by decide +kernel
  rcases hx with hx | rfl
  · unfold catL at hx
    simp only [List.mem_cons, List.not_mem_nil, or_false] at hx
    rcases hx with rfl | rfl | rfl | rfl | rfl
    · rw [c1]; simp [List.isPrefixOf]
    · rw [c2]; simp [List.isPrefixOf]
    · rw [c3]; simp [List.isPrefixOf]
    · rw [c4]; simp [List.isPrefixOf]
    · rw [c5]; simp [List.isPrefixOf]
  · rw [c6]; simp [List.isPrefixOf]
theorem off_neK {r : List Nat} {k : Ky} (hk : kOkP true k) : OF.cps.toList.isPrefixOf (kC k ++ r) = false := by
  cases k with
  | i n =>
    have e : OF.cps.toList = [111, 102, 102, 115, 101, 116, 58] := by decide +kernel
    rw [e]
    simp [kC, List.isPrefixOf]
  | s x => exact off_ne (.inl (hk.2.2 rfl))
theorem off_skip {cs : List Cs} {w h1 h2 h3 a r : List Nat} (h : WrCs cs w) (hk : ∀ c ∈ cs, kOkP true (cKey c)) (hh1 : Gap1 h1) : OF.cps.toList.isPrefixOf (pSkip (w ++ (othW h1 h2 h3 a ++ r))) = false := by
  cases cs with
  | nil =>
    rw [WrCs] at h
    subst h
    unfold othW
    rw [List.nil_append, List.append_assoc, skip_gap hh1.1 (fun c hc => by rw [List.append_assoc] at hc; exact lt_sp (oth_wd.head _ c hc)), List.append_assoc]
    exact off_ne (.inr rfl)
  | cons c cs =>
    obtain ⟨k, m⟩ := c
    rw [WrCs] at h
    obtain ⟨x, b, ha, hb, rfl⟩ := h
    rw [WrC] at ha
    obtain ⟨g1, g2, y, hg1, _, _, rfl⟩ := ha
    have hk1 := hk _ List.mem_cons_self
    rw [List.append_assoc, List.append_assoc, List.append_assoc, skip_gap hg1.1 (kC_sp k true hk1 _)]
    exact off_neK hk1
theorem head_tail {cs : List Cs} {w h1 h2 h3 a r : List Nat} (h : WrCs cs w) (hh1 : Gap1 h1) : ∀ c, (w ++ (othW h1 h2 h3 a ++ r)).head? = some c → inW LT c = false ∧ inW FG c = false := by
  cases cs with
  | nil =>
    rw [WrCs] at h
    subst h
    unfold othW
    rw [List.nil_append, List.append_assoc]
    exact head_gap1 hh1
  | cons c cs =>
    obtain ⟨k, m⟩ := c
    rw [WrCs] at h
    obtain ⟨x, b, ha, hb, rfl⟩ := h
    rw [WrC] at ha
    obtain ⟨g1, g2, y, hg1, _, _, rfl⟩ := ha
    rw [List.append_assoc, List.append_assoc]
    exact head_gap1 hg1
theorem off_len : OF.cps.toList.length = 7 := by decide +kernel
theorem off_read {f : Int} {x z : List Nat} (hf : ∃ i : Nat, f = (i : Int) ∧ i ≤ 9) (hx : offW f x) (hz : ∀ c, z.head? = some c → inW FG c = false) (hp : OF.cps.toList.isPrefixOf (pSkip z) = false) : ∃ i : Nat, f = (i : Int) ∧ (pOff (x ++ z) = .ok i z ∨ pOff (x ++ z) = .ok i (pSkip z)) := by
  obtain ⟨i, rfl, hi⟩ := hf
  refine ⟨i, rfl, ?_⟩
  rcases hx with ⟨h0, rfl⟩ | ⟨h0, g, hg, rfl⟩
  · have : i = 0 := by omega
    subst this
    refine .inr ?_
    unfold pOff
    rw [List.nil_append, hp, if_neg (by decide)]
  · refine .inl ?_
    have sp : ∀ c, (OF.cps.toList ++ ((nt ((i : Int).toNat)).cps.toList ++ z)).head? = some c → inW spW c = false := fun c hc => by
      have e : OF.cps.toList = [111, 102, 102, 115, 101, 116, 58] := by decide +kernel
      rw [e] at hc
      cases hc
      decide +kernel
    unfold pOff
    rw [List.append_assoc, List.append_assoc, skip_gap hg sp, if_pos (List.isPrefixOf_iff_prefix.mpr (List.prefix_append _ _))]
    have e : (OF.cps.toList ++ ((nt ((i : Int).toNat)).cps.toList ++ z)).drop 7 = (nt ((i : Int).toNat)).cps.toList ++ z := by
      rw [← off_len, List.drop_left]
    rw [e, Int.toNat_natCast, nat_read hi (by decide) hz]
theorem br_head (r : List Nat) : (123 :: r : List Nat) ≠ [] ∧ (123 :: r : List Nat).head? ≠ some 125 := ⟨List.cons_ne_nil _ _, by simp⟩
theorem kind_wd : WdOk "select" ∧ WdOk "plural" := ⟨wdB_ok (by decide +kernel), wdB_ok (by decide +kernel)⟩
/-- a choice up to its kind -/
theorem braces_read {ins plu : Bool} {M : Bool → List Nat → PR (List Nd)} {n : Str} {g1 g2 g3 g4 z : List Nat} (hn : WdOk n) (h1 : Gap g1) (h2 : Gap g2) (h3 : Gap g3) (h4 : Gap g4) :
    pNode ins M (123 :: (g1 ++ (n.cps.toList ++ (g2 ++ (44 :: (g3 ++ ((kd plu).cps.toList ++ (g4 ++ (44 :: z))))))))) = pChoice plu ins M n (44 :: z) := by
  rw [pNode, if_pos rfl]
  unfold pBraces
  have e := expect_gap (g := []) (c := 123) (r := g1 ++ (n.cps.toList ++ (g2 ++ (44 :: (g3 ++ ((kd plu).cps.toList ++ (g4 ++ (44 :: z)))))))) gap0 sp_123
  rw [List.nil_append] at e
  rw [e, PR.bind_ok, word_gap h1 hn (fun c hc => (head_gap h2 nl_44 c hc).1), PR.bind_ok, skip_gap h2 (fun c hc => by cases hc; exact sp_44)]
  simp only
  rw [if_neg (by decide)]
  have e2 := expect_gap (g := []) (c := 44) (r := g3 ++ ((kd plu).cps.toList ++ (g4 ++ (44 :: z)))) gap0 sp_44
  rw [List.nil_append] at e2
  have hk : WdOk (kd plu) := by cases plu; exact kind_wd.1; exact kind_wd.2
  rw [e2, PR.bind_ok, word_gap h3 hk (fun c hc => (head_gap h4 nl_44 c hc).1), PR.bind_ok]
  have e3 : ∀ b, pChoice b ins M n (g4 ++ 44 :: z) = pChoice b ins M n (44 :: z) := fun b => by
    unfold pChoice
    have e4 := expect_gap (g := []) (c := 44) (r := z) gap0 sp_44
    rw [List.nil_append] at e4
    rw [expect_gap h4 sp_44, e4]
  cases plu with
  | false => rw [if_pos (show kd false = "select" from rfl), e3]
  | true => rw [if_neg (show ¬ kd true = "select" by decide +kernel), if_pos (show kd true = "plural" from rfl), e3]
theorem no_other {cs : List Cs} {plu : Bool} (hk : ∀ c ∈ cs, kOkP plu (cKey c)) : Ky.s "other" ∉ (cutCs cs).map cKey := by
  rw [cutCs_keys]
  intro z
  obtain ⟨c, hc, e⟩ := List.mem_map.mp z
  have := hk c hc
  rw [e] at this
  exact this.2.1 rfl
mutual
theorem reads_N : ∀ (nd : Nd) (ins : Bool) (n : Nat) (w : List Nat), vN ins nd → nH nd ≤ n → WrN nd w → Reads (pNode ins (pMsg n)) w (cutN nd)
  | .text x, ins, n, w, hv, hh, h => by
    rw [WrN] at h; rw [vN] at hv; rw [cutN]
    subst h
    exact reads_text _ hv
  | .shw nm, ins, n, w, hv, hh, h => by
    rw [WrN] at h; rw [vN] at hv; rw [cutN]
    obtain ⟨g1, g2, hg1, hg2, rfl⟩ := h
    refine Reads.one (fun r => br_head _) fun r => ?_
    simp only [List.cons_append, List.append_assoc, List.nil_append]
    rw [pNode, if_pos rfl]
    unfold pBraces
    have e := expect_gap (g := []) (c := 123) (r := g1 ++ (nm.cps.toList ++ (g2 ++ (125 :: r)))) gap0 sp_123
    rw [List.nil_append] at e
    rw [e, PR.bind_ok, word_gap hg1 hv (fun c hc => (head_gap hg2 nl_125 c hc).1), PR.bind_ok, skip_gap hg2 (fun c hc => by cases hc; exact sp_125)]
    exact if_pos rfl
  | .num, ins, n, w, hv, hh, h => by
    rw [WrN] at h; rw [vN] at hv; rw [cutN]
    subst h
    refine Reads.one (fun r => ⟨List.cons_ne_nil _ _, by simp⟩) fun r => ?_
    show pNode ins (pMsg n) (35 :: r) = _
    rw [pNode, if_neg (by decide), if_neg (by decide), if_pos ⟨rfl, hv⟩]
  | .sel nm cs o, ins, n, w, hv, hh, h => by
    rw [WrN] at h; rw [vN] at hv; rw [cutN]; rw [nH] at hh
    obtain ⟨g1, g2, g3, g4, c, h1, h2, h3, a, hg1, hg2, hg3, hg4, hc, hh1, hh2, hh3, ho, rfl⟩ := h
    obtain ⟨v1, v2, v3, v4, v5⟩ := hv
    obtain ⟨n, rfl⟩ : ∃ k, n = k + 1 := ⟨n - 1, by omega⟩
    refine Reads.one (fun r => br_head _) fun r => ?_
    simp only [List.cons_append, List.append_assoc, List.nil_append]
    have b := braces_read (ins := ins) (plu := false) (M := pMsg (n + 1)) (z := c ++ (othW h1 h2 h3 a ++ r)) v1 hg1 hg2 hg3 hg4
    rw [show (kd false) = ("select" : Str) from rfl] at b
    rw [b]
    unfold pChoice
    have e4 := expect_gap (g := []) (c := 44) (r := c ++ (othW h1 h2 h3 a ++ r)) gap0 sp_44
    rw [List.nil_append] at e4
    rw [e4, PR.bind_ok, if_neg (by decide)]
    have wl := WrCs_len cs c hc
    obtain ⟨k, hk⟩ : ∃ k, (c ++ (othW h1 h2 h3 a ++ r)).length + 1 = k + 1 + cs.length := ⟨(c ++ (othW h1 h2 h3 a ++ r)).length - cs.length, by rw [List.length_append] at *; omega⟩
    rw [hk, reads_Cs cs ins false n c v4 (by omega) v2 hc (k + 1) [] (othW h1 h2 h3 a ++ r) (by rw [List.nil_append]; exact v3), List.nil_append]
    rw [oth_read hh1.1 hh2 hh3 (no_other v2) (fun r hr => (reads_L o ins n a v5 (by omega) ho).msg (.inr hr)), PR.bind_ok]
  | .plu nm f cs o, ins, n, w, hv, hh, h => by
    rw [WrN] at h; rw [vN] at hv; rw [cutN]; rw [nH] at hh
    obtain ⟨g1, g2, g3, g4, x, c, h1, h2, h3, a, hg1, hg2, hg3, hg4, hx, hc, hh1, hh2, hh3, ho, rfl⟩ := h
    obtain ⟨v1, v6, v2, v3, v4, v5⟩ := hv
    obtain ⟨n, rfl⟩ : ∃ k, n = k + 1 := ⟨n - 1, by omega⟩
    refine Reads.one (fun r => br_head _) fun r => ?_
    simp only [List.cons_append, List.append_assoc, List.nil_append]
    have b := braces_read (ins := ins) (plu := true) (M := pMsg (n + 1)) (z := x ++ (c ++ (othW h1 h2 h3 a ++ r))) v1 hg1 hg2 hg3 hg4
    rw [show (kd true) = ("plural" : Str) from rfl] at b
    rw [b]
    unfold pChoice
    have e4 := expect_gap (g := []) (c := 44) (r := x ++ (c ++ (othW h1 h2 h3 a ++ r))) gap0 sp_44
    rw [List.nil_append] at e4
    rw [e4, PR.bind_ok, if_pos rfl]
    obtain ⟨i, hi, ho2⟩ := off_read v6 hx (fun d hd => (head_tail hc hh1 d hd).2) (off_skip hc v2 hh1)
    have main : ∀ k : Nat, pCases true (pMsg (n + 1) true) (k + 1 + cs.length) [] (c ++ (othW h1 h2 h3 a ++ r)) = .ok (cutCs cs, cutL o) r := fun k => by
      rw [reads_Cs cs true true n c v4 (by omega) v2 hc (k + 1) [] (othW h1 h2 h3 a ++ r) (by rw [List.nil_append]; exact v3), List.nil_append]
      exact oth_read hh1.1 hh2 hh3 (no_other v2) (fun r hr => (reads_L o true n a v5 (by omega) ho).msg (.inr hr))
    rcases ho2 with ho2 | ho2
    · rw [ho2, PR.bind_ok]
      have wl := WrCs_len cs c hc
      obtain ⟨k, hk⟩ : ∃ k, (c ++ (othW h1 h2 h3 a ++ r)).length + 1 = k + 1 + cs.length := ⟨(c ++ (othW h1 h2 h3 a ++ r)).length - cs.length, by rw [List.length_append] at *; omega⟩
      rw [hk, main, PR.bind_ok, hi]
    · rw [ho2, PR.bind_ok]
      have wl := skip_len hc v2 (othW h1 h2 h3 a ++ r)
      obtain ⟨k, hk⟩ : ∃ k, (pSkip (c ++ (othW h1 h2 h3 a ++ r))).length + 1 = k + 1 + cs.length := ⟨(pSkip (c ++ (othW h1 h2 h3 a ++ r))).length - cs.length, by omega⟩
      rw [hk, cases_skip, main, PR.bind_ok, hi]
theorem reads_L : ∀ (m : List Nd) (ins : Bool) (n : Nat) (w : List Nat), vL ins m → lH m ≤ n → WrL m w → Reads (pNode ins (pMsg n)) w (cutL m)
  | [], ins, n, w, hv, hh, h => by
    rw [WrL] at h
    subst h
    rw [cutL]
    exact Reads.nil _
  | nd :: r, ins, n, w, hv, hh, h => by
    rw [WrL] at h; rw [vL] at hv; rw [cutL]; rw [lH] at hh
    obtain ⟨a, b, ha, hb, rfl⟩ := h
    exact (reads_N nd ins n a hv.1 (by omega) ha).app (reads_L r ins n b hv.2 (by omega) hb)
theorem reads_Cs : ∀ (cs : List Cs) (ins plu : Bool) (n : Nat) (w : List Nat), vCs ins cs → csH cs ≤ n → (∀ c ∈ cs, kOkP plu (cKey c)) → WrCs cs w → ∀ (f : Nat) (cs0 : List Cs) (r : List Nat), ((cs0 ++ cs).map cKey).Nodup →
    pCases plu (pMsg (n + 1) ins) (f + cs.length) cs0 (w ++ r) = pCases plu (pMsg (n + 1) ins) f (cs0 ++ cutCs cs) r
  | [], ins, plu, n, w, hv, hh, hk, h, f, cs0, r, hd => by
    rw [WrCs] at h
    subst h
    rw [cutCs, List.append_nil]; rfl
  | .mk k m :: cs, ins, plu, n, w, hv, hh, hk, h, f, cs0, r, hd => by
    rw [WrCs] at h; rw [vCs, vC] at hv; rw [csH, cH] at hh; rw [cutCs, cutC]
    obtain ⟨a, b, ha, hb, rfl⟩ := h
    rw [WrC] at ha
    obtain ⟨g1, g2, x, hg1, hg2, hx, rfl⟩ := ha
    have hk1 : kOkP plu k := hk _ List.mem_cons_self
    have hn : k ∉ cs0.map cKey := by
      rw [List.map_append, List.map_cons] at hd
      have := (List.nodup_append.mp hd).2.2
      intro z
      exact this _ z _ List.mem_cons_self rfl
    have hM : ∀ r, r.head? = some 125 → pMsg (n + 1) ins (x ++ r) = .ok (cutL m) r := fun r hr => (reads_L m ins n x hv.1 (by omega) hx).msg (.inr hr)
    simp only [List.append_assoc, List.cons_append, List.nil_append, List.length_cons]
    rw [show f + (cs.length + 1) = (f + cs.length) + 1 by omega, case_read hg1.1 hg2 hk1 hn hM]
    have ih := reads_Cs cs ins plu n b hv.2 (by omega) (fun c hc => hk c (List.mem_cons_of_mem _ hc)) hb f (cs0 ++ [.mk k (cutL m)]) r (by
      have : ((cs0 ++ [Cs.mk k (cutL m)] ++ cs).map cKey) = (cs0 ++ (Cs.mk k m :: cs)).map cKey := by simp [cKey]
      rw [this]; exact hd)
    rw [ih, List.append_assoc]; rfl
end

end
section
open PySem L2 DL
theorem ne_emptym (n : Nd) (h : nOk n = true) : cNe (eN n) (.tup [.str "text", .str ""]) = some (.bl (!isE n)) := by
  have e : (.tup [.str "text", .str ""] : D) = eN (.text "") := by rw [eN]
  have d2 : nOk (.text "") = true := by rw [nOk]; exact empty_ok
  have k : dEq (eN n) (eN (.text "")) = some (isE n) := by
    haveI : Decidable (eN n = eN (.text "")) := Classical.propDecidable _
    have d0 := nDep (.text "")
    rw [dEq_Bm (nOk_B n h) (nOk_B _ d2) (by rw [nH] at d0; omega)]
    congr 1
    rw [Bool.eq_iff_iff, decide_eq_true_iff]
    have q1 : ¬ ("show" : Str) = "text" := by decide +kernel
    cases n with
    | text x => simp [eN, isE]
    | shw x => simp [eN, isE, q1]
    | num => simp [eN, isE]
    | sel x cs o => simp [eN, isE]
    | plu x f cs o => simp [eN, isE]
  rw [e]; unfold cNe; rw [k]; rfl
theorem ixm1 (k : Nat) : ixN (k + 1) (-1) = some k := by
  unfold ixN
  rw [if_neg (by omega), if_pos (by omega)]
  congr 1; omega
theorem set_last (a : List Nd) (l : Nd) (d : D) : (eL a ++ [eN l]).set a.length d = eL a ++ [d] := by
  rw [List.set_append_right _ _ (by rw [eL_len]; exact Nat.le_refl _), eL_len, Nat.sub_self]; rfl
theorem pl_step (R : Rec) (m0 : D) (acc : List Nd) (n : Nd) (S : List D) (hR : R 4 [eN n] S = .ok (eN (plN n)) S) (h : nOk n = true) (hh : nH n ≤ 40) (hw : lW acc + nW n ≤ 5000000) :
    L_5_1 R [.val m0, .own (.lst (eL acc)), .val (eN n)] S = .next [.val m0, .own (.lst (eL (plS acc n (plN n)))), .val (eN n)] S := by
  have ne := ne_emptym n h
  have ln := lW_len acc
  have hl : acc.length < sizeLine := Nat.lt_of_le_of_lt (show acc.length ≤ 5000000 by omega) (by decide)
  have tn := tag_text n
  rw [e_L_5_1]
  rcases List.eq_nil_or_concat acc with rfl | ⟨a, l, rfl⟩
  · have one : eL [plN n] = [eN (plN n)] := eL_one _
    cases n with
    | text x =>
      by_cases hx : x = ""
      · subst hx
        simp [tn, isT, ne, isE, plS]
      · have hx2 : (x == "") = false := by simpa using hx
        rw [plN] at hR one
        simp [tn, isT, ne, isE, plS, hx, hx2, hR, one, s0]
    | _ => simp [tn, isT, ne, isE, plS, hR, one, s0]
  · rw [List.concat_eq_append] at hl hw ln ⊢
    have ea : eL (a ++ [l]) = eL a ++ [eN l] := by rw [eL_app, eL_one]
    have la : atI (eL a ++ [eN l]) (-1) = some (eN l) := by rw [atI_neg1, List.getLast?_concat]
    have tl := tag_text l
    have hl2 : a.length + 1 < sizeLine := by rw [List.length_append] at hl; exact hl
    have ix := ixm1 a.length
    have st := set_last a l
    have e2 : ∀ z, eL (a ++ [l, z]) = eL a ++ [eN l, eN z] := fun z => by rw [eL_app, eL, eL_one]
    have e3 : ∀ z, eL (a ++ [z]) = eL a ++ [eN z] := fun z => by rw [eL_app, eL_one]
    rw [plS_concat]
    cases n with
    | text x =>
      cases l with
      | text y =>
        have sz : y.length + x.length ≤ sizeLine := W_le (by
          rw [lW_app] at hw
          simp only [lW, nW] at hw; omega)
        have da : dAdd (.str y) (.str x) = some (.str (y ++ x)) := if_pos sz
        have en : eN (.text (y ++ x)) = .tup [.str "text", .str (y ++ x)] := by rw [eN]
        simp [tn, isT, ne, isE, ea, la, tl, ix, st, da, e3, en]
      | _ =>
        by_cases hx : x = ""
        · subst hx
          simp [tn, isT, ne, isE, ea, la, tl]
        · have hx2 : (x == "") = false := by simpa using hx
          rw [plN] at hR
          simp [tn, isT, ne, isE, ea, la, tl, hx, hx2, hR, hl2, e2]
    | _ => simp [tn, isT, ne, isE, ea, la, tl, hR, hl2, e2]
/-! plain: weights -/
theorem plS_W (acc : List Nd) (n n' : Nd) (h : nW n' ≤ nW n) : lW (plS acc n n') ≤ lW acc + nW n := by
  rcases List.eq_nil_or_concat acc with rfl | ⟨a, l, rfl⟩
  · cases n with
    | text x =>
      rw [plS_nil]
      simp only
      split
      · rw [lW]; omega
      · rw [lW_one]; omega
    | _ => rw [plS_nil]; simp only; rw [lW_one]; omega
  · rw [List.concat_eq_append, plS_concat]
    cases n with
    | text x =>
      cases l with
      | text y =>
        simp only
        rw [lW_app, lW_app, lW_one, lW_one, nW, nW, nW, strLen_append]; omega
      | _ =>
        simp only
        split
        · omega
        · rw [lW_app, lW_one]; omega
    | _ => simp only; rw [lW_app _ [_], lW_one]; omega
mutual
theorem plN_W : ∀ n : Nd, nW (plN n) ≤ nW n
  | .text x => by rw [plN]; exact Nat.le_refl _
  | .shw n => by rw [plN]; exact Nat.le_refl _
  | .num => by rw [plN]; exact Nat.le_refl _
  | .sel n cs o => by
    have h1 := plCs_W cs
    have h2 := plA_W [] o
    rw [lW] at h2
    rw [plN, nW, nW]; omega
  | .plu n f cs o => by
    have h1 := plCs_W cs
    have h2 := plA_W [] o
    rw [lW] at h2
    rw [plN, nW, nW]; omega
theorem plA_W : ∀ (acc m : List Nd), lW (plA acc m) ≤ lW acc + lW m
  | acc, [] => by rw [plA]; omega
  | acc, n :: r => by
    have h1 := plN_W n
    have h2 := plA_W (plS acc n (plN n)) r
    have h3 := plS_W acc n (plN n) h1
    rw [plA, lW]; omega
theorem plC_W : ∀ c : Cs, cW (plC c) ≤ cW c
  | .mk k m => by
    have h2 := plA_W [] m
    rw [lW] at h2
    rw [plC, cW, cW]; omega
theorem plCs_W : ∀ m : List Cs, csW (plCs m) ≤ csW m
  | [] => by rw [plCs]; exact Nat.le_refl _
  | c :: r => by
    have h1 := plC_W c
    have h2 := plCs_W r
    rw [plCs, csW, csW]; omega
end
theorem pl_loop (R : Rec) (m0 : D) (S : List D) : ∀ (m acc : List Nd), (∀ n ∈ m, R 4 [eN n] S = .ok (eN (plN n)) S) → lOk m = true → lH m ≤ 40 → lW acc + lW m ≤ 5000000 →
    forD (.nm 2) [2] (L_5_1 R) (eL m) [.val m0, .own (.lst (eL acc)), .non] S = .next [.val m0, .own (.lst (eL (plA acc m))), .non] S
  | [], acc, _, _, _, _ => by rw [eL, plA, forD]
  | n :: r, acc, hR, ho, hh, hw => by
    rw [lOk, Bool.and_eq_true] at ho
    rw [lH] at hh
    rw [lW] at hw
    have hs := pl_step R m0 acc n S (hR n List.mem_cons_self) ho.1 (by omega) (by omega)
    have ih := pl_loop R m0 S r (plS acc n (plN n)) (fun x hx => hR x (List.mem_cons_of_mem _ hx)) ho.2 (by omega) (by have := plS_W acc n (plN n) (plN_W n); omega)
    rw [eL, plA, forD, x_bnm]
    simp only [List.set]
    rw [hs]
    simp only [x_clr1, x_clr0, List.set]
    exact ih
theorem pn_choice (R : Rec) (S : List D) (nd : Nd) (cs : List Cs) (o : List Nd) (h : (∃ x, nd = .sel x cs o) ∨ ∃ x f, nd = .plu x f cs o)
    (h1 : R 1 [eN nd] S = .ok (.lst (eCs cs)) S) (h2 : R 2 [eN nd] S = .ok (.lst (eL o)) S) (hc : ∀ c ∈ cs, R 5 [.lst (eL (cMsg c))] S = .ok (.lst (eL (plA [] (cMsg c)))) S) (ho : R 5 [.lst (eL o)] S = .ok (.lst (eL (plA [] o))) S) (hl : cs.length ≤ 5000000) :
    B_4 R [eN nd] S = .ok (eN (plN nd)) S := by
  have comp := comp_cases (ε := C_4_1 R) (Γ := [.val (eN nd), .non, .non, .non]) (S := S) (i := 2) (j := 3) (fun c => eC1 (plC c)) cs fun c hcm => by
    have := hc c hcm
    cases c with
    | mk k m =>
      simp only [cMsg, cKey] at this ⊢
      simp [e_C_4_1, this, plC, eC1]
  have em : cs.map (fun c => eC1 (plC c)) = eCs (plCs cs) := by rw [eCs_map, plCs_map, List.map_map]; rfl
  rw [em] at comp
  have lk : lenOk (eCs (plCs cs)) = some (.lst (eCs (plCs cs))) := lenOk_le (by rw [eCs_len, plCs_map, List.length_map]; exact hl)
  have tg := tag_notIn nd
  have ic : isC nd = true := by rcases h with ⟨x, rfl⟩ | ⟨x, f, rfl⟩ <;> rfl
  rcases h with ⟨x, rfl⟩ | ⟨x, f, rfl⟩
  · have c1 : dCut (eN (.sel x cs o)) none (some (-2)) = some (.tup [.str "select", .str x]) := by rw [eN]; rfl
    have c2 : dAdd (.tup [.str "select", .str x]) (.tup [.lst (eCs (plCs cs)), .lst (eL (plA [] o))]) = some (.tup [.str "select", .str x, .lst (eCs (plCs cs)), .lst (eL (plA [] o))]) := rfl
    rw [plN, show eN (.sel x (plCs cs) (plA [] o)) = .tup [.str "select", .str x, .lst (eCs (plCs cs)), .lst (eL (plA [] o))] by rw [eN]]
    simp [B_4, tg, ic, h1, comp, lk, c1, h2, ho, c2]
  · have c1 : dCut (eN (.plu x f cs o)) none (some (-2)) = some (.tup [.str "plural", .str x, .int f]) := by rw [eN]; rfl
    have c2 : dAdd (.tup [.str "plural", .str x, .int f]) (.tup [.lst (eCs (plCs cs)), .lst (eL (plA [] o))]) = some (.tup [.str "plural", .str x, .int f, .lst (eCs (plCs cs)), .lst (eL (plA [] o))]) := rfl
    rw [plN, show eN (.plu x f (plCs cs) (plA [] o)) = .tup [.str "plural", .str x, .int f, .lst (eCs (plCs cs)), .lst (eL (plA [] o))] by rw [eN]]
    simp [B_4, tg, ic, h1, comp, lk, c1, h2, ho, c2]
theorem plain_both : ∀ n : Nat, (∀ (nd : Nd) (S : List D), nOk nd = true → nH nd ≤ 40 → nW nd ≤ 5000000 → 2 * nH nd + 1 ≤ n → run n 4 [eN nd] S = .ok (eN (plN nd)) S) ∧
    (∀ (m : List Nd) (S : List D), lOk m = true → lH m ≤ 40 → lW m ≤ 5000000 → 2 * lH m + 2 ≤ n → run n 5 [.lst (eL m)] S = .ok (.lst (eL (plA [] m))) S)
  | 0 => ⟨fun nd S _ _ _ h => by omega, fun m S _ _ _ h => by omega⟩
  | n + 1 => by
    obtain ⟨ih1, ih2⟩ := plain_both n
    refine ⟨fun nd S ho hh hw hn => ?_, fun m S ho hh hw hn => ?_⟩
    · rw [run_4]
      have ch : ∀ (cs : List Cs) (o : List Nd), ((∃ x, nd = .sel x cs o) ∨ ∃ x f, nd = .plu x f cs o) → csOk cs = true → lOk o = true → nH nd = max (csH cs) (lH o) + 1 → csW cs + lW o ≤ nW nd → B_4 (run n) [eN nd] S = .ok (eN (plN nd)) S := fun cs o hd oc oo e1 e2 => by
        obtain ⟨k, rfl⟩ : ∃ k, n = k + 1 := ⟨n - 1, by omega⟩
        have cl := csW_len cs
        refine pn_choice (run (k + 1)) S nd cs o hd (run_cases k nd cs o S hd) (run_other k nd cs o S hd) (fun c hc => ?_) (ih2 o S oo (by omega) (by omega) (by omega)) (by omega)
        have a1 := mem_csOk hc oc
        have a2 := mem_csH hc
        have a3 := mem_csW hc
        cases c with
        | mk k2 m2 =>
          rw [cOk, Bool.and_eq_true] at a1
          rw [cH] at a2
          rw [cW] at a3
          exact ih2 m2 S a1.2 (by omega) (by omega) (by omega)
      have tg := tag_notIn nd
      cases nd with
      | text x => simp [B_4, tg, isC, plN]
      | shw x => simp [B_4, tg, isC, plN]
      | num => simp [B_4, tg, isC, plN]
      | sel x cs o =>
        rw [nOk, Bool.and_eq_true, Bool.and_eq_true] at ho
        exact ch cs o (.inl ⟨x, rfl⟩) ho.1.2 ho.2 (by rw [nH]) (by rw [nW]; omega)
      | plu x f cs o =>
        rw [nOk, Bool.and_eq_true, Bool.and_eq_true, Bool.and_eq_true] at ho
        exact ch cs o (.inr ⟨x, f, rfl⟩) ho.1.2 ho.2 (by rw [nH]) (by rw [nW]; omega)
    · rw [run_5]
      have lp := pl_loop (run n) (.lst (eL m)) S m [] (fun nd hx => ih1 nd S (mem_lOk hx ho) (by have := mem_lH hx; omega) (by have := mem_lW hx; omega) (by have := mem_lH hx; omega)) ho hh (by rw [lW]; omega)
      rw [eL_nil] at lp
      simp [B_5, lp]

end
section
open PySem L2 DL
/-! ### single signs put together -/
theorem plS_two (acc : List Nd) (x y : Str) (n1 n2 n3 : Nd) : plS (plS acc (.text x) n1) (.text y) n2 = plS acc (.text (x ++ y)) n3 := by
  have ne : ∀ a b : Str, a ++ b = ("" : Str) → b = "" := fun a b h => by
    have e : (a ++ b).length = ("" : Str).length := by rw [h]
    rw [sl_app] at e
    have l0 : b.length = 0 := by
      have : ("" : Str).length = 0 := by decide +kernel
      omega
    have : b.cps.toList = [] := List.eq_nil_of_length_eq_zero (by rw [len_cps]; exact l0)
    rw [← mkS_cps b, this]; rfl
  rcases List.eq_nil_or_concat acc with rfl | ⟨a, l, rfl⟩
  · rw [plS_nil, plS_nil]
    simp only
    by_cases h : x = ""
    · subst h
      rw [if_pos rfl, plS_nil, nil_app]
    · rw [if_neg h, show ([Nd.text x] : List Nd) = [] ++ [Nd.text x] from rfl, plS_concat]
      simp only
      have : ¬ x ++ y = "" := fun z => h (by
        have e := ne x y z
        rw [e, app_nil] at z; exact z)
      rw [if_neg this]
      simp
  · rw [List.concat_eq_append]
    cases l with
    | text z =>
      rw [plS_concat, plS_concat]
      simp only
      rw [plS_concat]
      simp only
      rw [str_assoc]
    | _ =>
      rw [plS_concat, plS_concat]
      simp only
      by_cases h : x = ""
      · subst h
        rw [if_pos rfl, plS_concat, nil_app]
      · rw [if_neg h, plS_concat]
        simp only
        have : ¬ x ++ y = "" := fun z => h (by
          have e := ne x y z
          rw [e, app_nil] at z; exact z)
        rw [if_neg this]
theorem plA_cutT : ∀ (l : List Nat) (acc : List Nd) (n' : Nd), plA acc (cutT l) = plS acc (.text (mkS l)) n'
  | [], acc, n' => by
    have e : mkS [] = ("" : Str) := rfl
    rw [e, plS_empty, cutT, List.map_nil, plA]
  | c :: r, acc, n' => by
    have ih := plA_cutT r (plS acc (.text (sg c)) (plN (.text (sg c)))) n'
    unfold cutT at ih ⊢
    rw [List.map_cons, plA, ih, plS_two acc _ _ _ _ n']
    have e : sg c ++ mkS r = mkS (c :: r) := by
      have := mkS_app [c] r
      exact this
    rw [e]
mutual
theorem plA_cutN : ∀ (nd : Nd) (acc : List Nd), plA acc (cutN nd) = plS acc nd (plN nd)
  | .text x, acc => by rw [cutN, plA_cutT _ _ (plN (.text x)), mkS_cps]
  | .shw n, acc => by rw [cutN, plA, plA]
  | .num, acc => by rw [cutN, plA, plA]
  | .sel n cs o, acc => by rw [cutN, plA, plA, plN, plN, plCs_cut cs, plA_cutL o []]; rfl
  | .plu n f cs o, acc => by rw [cutN, plA, plA, plN, plN, plCs_cut cs, plA_cutL o []]; rfl
theorem plA_cutL : ∀ (m : List Nd) (acc : List Nd), plA acc (cutL m) = plA acc m
  | [], acc => by rw [cutL]
  | n :: r, acc => by rw [cutL, plA_app, plA_cutN n acc, plA_cutL r, plA]
theorem plCs_cut : ∀ (cs : List Cs), plCs (cutCs cs) = plCs cs
  | [] => by rw [cutCs]
  | .mk k m :: r => by rw [cutCs, cutC, plCs, plCs, plC, plC, plCs_cut r, plA_cutL m []]
end
theorem lW_cutT (l : List Nat) : lW (cutT l) = 50 * l.length := by
  induction l with
  | nil => rfl
  | cons c r ih =>
    have e : lW (cutT (c :: r)) = nW (.text (sg c)) + lW (cutT r) := by unfold cutT; rw [List.map_cons, lW]
    have w : nW (.text (sg c)) = 50 := by rw [nW]; rfl
    rw [e, ih, w, List.length_cons]; omega
mutual
theorem lW_cutN : ∀ nd : Nd, lW (cutN nd) ≤ 5 * nW nd
  | .text x => by rw [cutN, lW_cutT, len_cps, nW]; omega
  | .shw n => by rw [cutN, lW_one]; omega
  | .num => by rw [cutN, lW_one]; omega
  | .sel n cs o => by
    rw [cutN, lW_one, nW, nW]
    have h1 := csW_cut cs
    have h2 := lW_cutL o
    omega
  | .plu n f cs o => by
    rw [cutN, lW_one, nW, nW]
    have h1 := csW_cut cs
    have h2 := lW_cutL o
    omega
theorem lW_cutL : ∀ m : List Nd, lW (cutL m) ≤ 5 * lW m
  | [] => by rw [cutL, lW]; omega
  | n :: r => by
    rw [cutL, lW_app, lW]
    have h1 := lW_cutN n
    have h2 := lW_cutL r
    omega
theorem csW_cut : ∀ cs : List Cs, csW (cutCs cs) ≤ 5 * csW cs
  | [] => by rw [cutCs, csW]; omega
  | .mk k m :: r => by
    rw [cutCs, cutC, csW, csW, cW, cW]
    have h1 := lW_cutL m
    have h2 := csW_cut r
    omega
end
theorem lH_cutT (l : List Nat) : lH (cutT l) = 0 := by
  induction l with
  | nil => rfl
  | cons c r ih =>
    have e : lH (cutT (c :: r)) = max (nH (.text (sg c))) (lH (cutT r)) := by unfold cutT; rw [List.map_cons, lH]
    rw [e, ih, nH]; rfl
mutual
theorem lH_cutN : ∀ nd : Nd, lH (cutN nd) = nH nd
  | .text x => by rw [cutN, lH_cutT, nH]
  | .shw n => by rw [cutN, lH, lH]; omega
  | .num => by rw [cutN, lH, lH]; omega
  | .sel n cs o => by rw [cutN, lH, lH, nH, nH, csH_cut cs, lH_cutL o]; omega
  | .plu n f cs o => by rw [cutN, lH, lH, nH, nH, csH_cut cs, lH_cutL o]; omega
theorem lH_cutL : ∀ m : List Nd, lH (cutL m) = lH m
  | [] => by rw [cutL]
  | n :: r => by rw [cutL, lH_app, lH_cutN n, lH_cutL r, lH]
theorem csH_cut : ∀ cs : List Cs, csH (cutCs cs) = csH cs
  | [] => by rw [cutCs]
  | .mk k m :: r => by rw [cutCs, cutC, csH, csH, cH, cH, csH_cut r, lH_cutL m]
end
theorem sgn_sOk {c : Nat} (h : sgnOk c = true) : sOk (sg c) = true := by
  have hc := of_decide_eq_true h
  have al : (List.range 127).all (fun c => sOk (sg c)) = true := by decide +kernel
  exact List.all_eq_true.mp al c (List.mem_range.mpr (by omega))
theorem lOk_cutT (l : List Nat) (h : ∀ c ∈ l, sgnOk c = true) : lOk (cutT l) = true := by
  induction l with
  | nil => rfl
  | cons c r ih =>
    have e : lOk (cutT (c :: r)) = (nOk (.text (sg c)) && lOk (cutT r)) := by unfold cutT; rw [List.map_cons, lOk]
    rw [e, ih fun x hx => h x (List.mem_cons_of_mem _ hx), nOk, sgn_sOk (h c List.mem_cons_self)]; rfl
mutual
theorem lOk_cutN : ∀ (nd : Nd) (ins : Bool), vN ins nd → nOk nd = true → lOk (cutN nd) = true
  | .text x, ins, hv, h => by rw [vN] at hv; rw [cutN]; exact lOk_cutT _ hv
  | .shw n, ins, hv, h => by rw [cutN, lOk, lOk, h]; rfl
  | .num, ins, hv, h => by rw [cutN, lOk, lOk, h]; rfl
  | .sel n cs o, ins, hv, h => by
    rw [vN] at hv
    rw [nOk, Bool.and_eq_true, Bool.and_eq_true] at h
    rw [cutN, lOk, lOk, nOk, h.1.1, csOk_cut cs ins hv.2.2.2.1 h.1.2, lOk_cutL o ins hv.2.2.2.2 h.2]; rfl
  | .plu n f cs o, ins, hv, h => by
    rw [vN] at hv
    rw [nOk, Bool.and_eq_true, Bool.and_eq_true, Bool.and_eq_true] at h
    rw [cutN, lOk, lOk, nOk, h.1.1.1, h.1.1.2, csOk_cut cs true hv.2.2.2.2.1 h.1.2, lOk_cutL o true hv.2.2.2.2.2 h.2]; rfl
theorem lOk_cutL : ∀ (m : List Nd) (ins : Bool), vL ins m → lOk m = true → lOk (cutL m) = true
  | [], ins, hv, h => by rw [cutL]; exact h
  | n :: r, ins, hv, h => by
    rw [vL] at hv
    rw [lOk, Bool.and_eq_true] at h
    rw [cutL, lOk_app, lOk_cutN n ins hv.1 h.1, lOk_cutL r ins hv.2 h.2]; rfl
theorem csOk_cut : ∀ (cs : List Cs) (ins : Bool), vCs ins cs → csOk cs = true → csOk (cutCs cs) = true
  | [], ins, hv, h => by rw [cutCs]; exact h
  | .mk k m :: r, ins, hv, h => by
    rw [vCs, vC] at hv
    rw [csOk, cOk, Bool.and_eq_true, Bool.and_eq_true] at h
    rw [cutCs, cutC, csOk, cOk, h.1.1, lOk_cutL m ins hv.1 h.1.2, csOk_cut r ins hv.2 h.2]; rfl
end
/-- a notation is read as its message -/
theorem parse_written {n : Nat} {m : List Nd} {w : List Nat} (hv : vL false m) (hg : gL m) (hn : lH m + 1 ≤ n) (hw : WrL m w) : pMsg n false w = .ok (cutL m) [] ∧ pParse n w = .ok m [] := by
  obtain ⟨k, rfl⟩ : ∃ k, n = k + 1 := ⟨n - 1, by omega⟩
  have e := (reads_L m false k w hv (by omega) hw).msg (r := []) (.inl rfl)
  rw [List.append_nil] at e
  have e1 : pMsg (k + 1) false w = .ok (cutL m) [] := e
  refine ⟨e1, ?_⟩
  unfold pParse
  rw [e1, PR.bind_ok, if_pos rfl, plA_cutL, plA_same [] m hg]; rfl

end
section
open PySem L2 DL
/-! ### the notation, and the program's writer -/
def offS (f : Int) : List Nat := if f = 0 then [] else 32 :: (OF.cps.toList ++ (nt f.toNat).cps.toList)
mutual
def stN : Nd → List Nat
  | .text x => escT x.cps.toList
  | .shw n => 123 :: (n.cps.toList ++ [125])
  | .num => [35]
  | .sel n cs o => 123 :: (n.cps.toList ++ (44 :: 32 :: (("select" : Str).cps.toList ++ (44 :: (stCs cs ++ othW [32] [32] [] (stL o))))))
  | .plu n f cs o => 123 :: (n.cps.toList ++ (44 :: 32 :: (("plural" : Str).cps.toList ++ (44 :: (offS f ++ (stCs cs ++ othW [32] [32] [] (stL o)))))))
def stL : List Nd → List Nat
  | [] => []
  | n :: r => stN n ++ stL r
def stC : Cs → List Nat
  | .mk k m => 32 :: (kC k ++ (32 :: 123 :: (stL m ++ [125])))
def stCs : List Cs → List Nat
  | [] => []
  | c :: r => stC c ++ stCs r
end
theorem gap1_32 : Gap1 [32] := ⟨fun c hc => by rw [List.mem_singleton.mp hc]; decide +kernel, List.cons_ne_nil _ _⟩
theorem offS_W {f : Int} : offW f (offS f) := by
  unfold offS offW
  by_cases h : f = 0
  · exact .inl ⟨h, if_pos h⟩
  · exact .inr ⟨h, [32], gap1_32.1, by rw [if_neg h]; rfl⟩
mutual
theorem stN_W : ∀ nd : Nd, WrN nd (stN nd)
  | .text x => by rw [WrN, stN]
  | .shw n => by rw [WrN, stN]; exact ⟨[], [], gap0, gap0, rfl⟩
  | .num => by rw [WrN, stN]
  | .sel n cs o => by
    rw [WrN, stN]
    exact ⟨[], [], [32], [], stCs cs, [32], [32], [], stL o, gap0, gap0, gap1_32.1, gap0, stCs_W cs, gap1_32, gap1_32.1, gap0, stL_W o, rfl⟩
  | .plu n f cs o => by
    rw [WrN, stN]
    exact ⟨[], [], [32], [], offS f, stCs cs, [32], [32], [], stL o, gap0, gap0, gap1_32.1, gap0, offS_W, stCs_W cs, gap1_32, gap1_32.1, gap0, stL_W o, rfl⟩
theorem stL_W : ∀ m : List Nd, WrL m (stL m)
  | [] => by rw [WrL, stL]
  | n :: r => by rw [WrL, stL]; exact ⟨_, _, stN_W n, stL_W r, rfl⟩
theorem stC_W : ∀ c : Cs, WrC c (stC c)
  | .mk k m => by rw [WrC, stC]; exact ⟨[32], [32], stL m, gap1_32, gap1_32.1, stL_W m, rfl⟩
theorem stCs_W : ∀ cs : List Cs, WrCs cs (stCs cs)
  | [] => by rw [WrCs, stCs]
  | c :: r => by rw [WrCs, stCs]; exact ⟨_, _, stC_W c, stCs_W r, rfl⟩
end
theorem escT_len (l : List Nat) : (escT l).length ≤ 3 * l.length := by
  induction l with
  | nil => exact Nat.le_refl _
  | cons c r ih =>
    rw [escT, List.length_append, List.length_cons, len_cps]
    have := escC_len c
    omega
/-- what is asked of numbers for their size -/
def kSz : Ky → Prop
  | .i n => 0 ≤ n ∧ n ≤ 999
  | .s _ => True
theorem ks_of {k : Ky} {plu : Bool} (h : kOkP plu k) : kSz k := by
  cases k with
  | i n => obtain ⟨_, i, rfl, hi⟩ := h; exact ⟨by omega, by omega⟩
  | s x => trivial
theorem kC_len {k : Ky} (h : kSz k) : (kC k).length ≤ kW k + 4 := by
  cases k with
  | i n =>
    obtain ⟨h0, h9⟩ := h
    have := (nt_ok (i := n.toNat) (by omega)).l3
    rw [kC, List.length_cons, len_cps]
    omega
  | s x => rw [kC, len_cps, kW]; omega
theorem offS_len {f : Int} (h : ∃ i : Nat, f = (i : Int) ∧ i ≤ 9) : (offS f).length ≤ 11 := by
  obtain ⟨i, rfl, hi⟩ := h
  unfold offS
  split
  · exact Nat.zero_le _
  · have := (nt_ok (i := ((i : Int)).toNat) (by omega)).l3
    rw [List.length_cons, List.length_append, off_len, len_cps]
    omega
theorem kd_len : ("select" : Str).cps.toList.length = 6 ∧ ("plural" : Str).cps.toList.length = 6 ∧ ("other" : Str).cps.toList.length = 5 := by decide +kernel
mutual
theorem stN_len : ∀ (nd : Nd) (ins : Bool), vN ins nd → (stN nd).length ≤ nW nd
  | .text x, ins, hv => by
    rw [stN, nW]
    have := escT_len x.cps.toList
    rw [len_cps] at this
    omega
  | .shw n, ins, hv => by rw [stN, nW, List.length_cons, List.length_append, len_cps]; simp only [List.length_cons, List.length_nil]; omega
  | .num, ins, hv => by rw [stN, nW]; simp
  | .sel n cs o, ins, hv => by
    rw [vN] at hv
    have h1 := stCs_len cs ins false hv.2.2.2.1 hv.2.1
    have h2 := stL_len o ins hv.2.2.2.2
    rw [stN, nW]
    unfold othW
    simp only [List.length_cons, List.length_append, List.length_nil, len_cps, kd_len.1, kd_len.2.2]
    have a1 := kd_len.1
    have a2 := kd_len.2.2
    rw [len_cps] at a1 a2
    omega
  | .plu n f cs o, ins, hv => by
    rw [vN] at hv
    have h1 := stCs_len cs true true hv.2.2.2.2.1 hv.2.2.1
    have h2 := stL_len o true hv.2.2.2.2.2
    have h3 := offS_len hv.2.1
    rw [stN, nW]
    unfold othW
    simp only [List.length_cons, List.length_append, List.length_nil, len_cps]
    have a1 := kd_len.2.1
    have a2 := kd_len.2.2
    rw [len_cps] at a1 a2
    omega
theorem stL_len : ∀ (m : List Nd) (ins : Bool), vL ins m → (stL m).length ≤ lW m
  | [], ins, hv => by rw [stL]; exact Nat.zero_le _
  | n :: r, ins, hv => by
    rw [vL] at hv
    have h1 := stN_len n ins hv.1
    have h2 := stL_len r ins hv.2
    rw [stL, lW, List.length_append]
    omega
theorem stCs_len : ∀ (cs : List Cs) (ins plu : Bool), vCs ins cs → (∀ c ∈ cs, kOkP plu (cKey c)) → (stCs cs).length ≤ csW cs
  | [], ins, plu, hv, hk => by rw [stCs]; exact Nat.zero_le _
  | .mk k m :: r, ins, plu, hv, hk => by
    rw [vCs, vC] at hv
    have h1 := stL_len m ins hv.1
    have h2 := stCs_len r ins plu hv.2 fun c hc => hk c (List.mem_cons_of_mem _ hc)
    have h3 := kC_len (ks_of (hk (.mk k m) List.mem_cons_self))
    rw [stCs, stC, csW, cW]
    simp only [cKey] at h3
    simp only [List.length_cons, List.length_append, List.length_nil]
    omega
end
/-! putting texts together -/
theorem dAdd_m (x y : List Nat) (h : x.length + y.length ≤ 5000000) : dAdd (.str (mkS x)) (.str (mkS y)) = some (.str (mkS (x ++ y))) := by
  have : (mkS x).length + (mkS y).length ≤ sizeLine := by rw [len_mkS, len_mkS]; exact Nat.le_trans h (by decide)
  show (if (mkS x).length + (mkS y).length ≤ sizeLine then some (D.str (mkS x ++ mkS y)) else none) = _
  rw [if_pos this, mkS_app]
theorem cat_ok {a b : De} {Γ : List Sl} {S S1 S2 : List D} {x y : List Nat} (ha : a Γ S = .ok (.str (mkS x)) S1) (hb : b Γ S1 = .ok (.str (mkS y)) S2) (h : x.length + y.length ≤ 5000000) : eOp dAdd a b Γ S = .ok (.str (mkS (x ++ y))) S2 := by
  have e := dAdd_m x y h
  simp [ha, hb, e]
theorem c_ok {Γ : List Sl} {S : List D} (z : Str) : eC (.str z) Γ S = .ok (.str (mkS z.cps.toList)) S := rfl
theorem l_ob : ("{" : Str).cps.toList = [123] := by decide +kernel
theorem l_cb : ("}" : Str).cps.toList = [125] := by decide +kernel
theorem l_so : ("\x20{" : Str).cps.toList = [32, 123] := by decide +kernel
theorem l_cs : (",\x20" : Str).cps.toList = [44, 32] := by decide +kernel
theorem l_co : ("," : Str).cps.toList = [44] := by decide +kernel
theorem l_eq : ("=" : Str).cps.toList = [61] := by decide +kernel
theorem l_nu : ("#" : Str).cps.toList = [35] := by decide +kernel
theorem l_sp : ("\x20" : Str).cps.toList = [32] := by decide +kernel

end
section
open PySem L2 DL
/-! ### isinstance, str of small numbers -/
theorem kit_ii : kitB "int" "int" = some true := by decide +kernel
theorem kit_si : kitB "str" "int" = some false := by decide +kernel
theorem kit_ss : kitB "str" "str" = some true := by decide +kernel
theorem kit_is : kitB "int" "str" = some false := by decide +kernel
theorem isi_ii (i : Int) : dIsi "int" (.int i) = some (.bl true) := by unfold dIsi tyN; show (kitB "int" "int").map D.bl = _; rw [kit_ii]; rfl
theorem isi_si (x : Str) : dIsi "int" (.str x) = some (.bl false) := by unfold dIsi tyN; show (kitB "str" "int").map D.bl = _; rw [kit_si]; rfl
theorem isi_ss (x : Str) : dIsi "str" (.str x) = some (.bl true) := by unfold dIsi tyN; show (kitB "str" "str").map D.bl = _; rw [kit_ss]; rfl
theorem isi_is (i : Int) : dIsi "str" (.int i) = some (.bl false) := by unfold dIsi tyN; show (kitB "int" "str").map D.bl = _; rw [kit_is]; rfl
theorem str_nt {n : Int} (h : kSz (.i n)) : dStr (.int n) = some (.str (mkS (nt n.toNat).cps.toList)) := by
  obtain ⟨h0, h9⟩ := h
  rw [dStr_int, mkS_cps]
  have e : n.natAbs.log2 < 1920 := by
    by_cases z : n.natAbs = 0
    · rw [z]; decide
    · exact (Nat.log2_lt z).mpr (Nat.lt_of_le_of_lt (show n.natAbs ≤ 999 by omega) (by decide))
  rw [if_pos e]
  unfold nt
  rw [Int.toNat_of_nonneg h0]
def ofL : Option Int → List Nat
  | some g => offS g
  | none => []
theorem vCs_mem {ins : Bool} {cs : List Cs} {c : Cs} (h : c ∈ cs) (hv : vCs ins cs) : vL ins (cMsg c) := by
  induction cs with
  | nil => cases h
  | cons a r ih =>
    rw [vCs] at hv
    rcases List.mem_cons.mp h with rfl | h
    · cases c with
      | mk k m => have := hv.1; rw [vC] at this; exact this
    · exact ih h hv.2

end
section
open PySem L2 DL
/-! ### the law's own writer (ids 1007 to 1010) -/
theorem lesc_loop (R : Rec) (v0 : Sl) (S : List D) : ∀ (cs : List Nat) (acc : List Nat), acc.length + 3 * cs.length ≤ 4000000 →
    forD (.nm 2) [2] (L_1007_1 R) (cs.map fun c => D.str (sg c)) [v0, .val (.str (mkS acc)), .non] S = .next [v0, .val (.str (mkS (acc ++ escT cs))), .non] S
  | [], acc, _ => by rw [escT, List.append_nil]; rfl
  | c :: r, acc, h => by
    rw [List.length_cons] at h
    have e3 := escC_len c
    have ih := lesc_loop R v0 S r (acc ++ (escC c).cps.toList) (by rw [List.length_append, len_cps]; omega)
    have cq := sg_q c
    have ci := cIn_s (c := c) (w := "{}#")
    have l3 : ("{}#" : Str).cps.toList = [123, 125, 35] := by decide +kernel
    rw [l3] at ci
    rw [List.map_cons, forD, x_bnm, escT, ← List.append_assoc]
    simp only [List.set_cons_succ, List.set_cons_zero]
    have st : L_1007_1 R [v0, .val (.str (mkS acc)), .val (.str (sg c))] S = .next [v0, .val (.str (mkS (acc ++ (escC c).cps.toList))), .val (.str (sg c))] S := by
      rw [e_L_1007_1, escC_l]
      by_cases q : c = 39
      · rw [if_pos q]
        rw [decide_eq_true q] at cq
        have a1 := dAdd_m acc [39, 39] (by simp; omega)
        rw [show mkS [39, 39] = ("''" : Str) by decide +kernel] at a1
        simp [cq, a1]
      · rw [if_neg q]
        rw [decide_eq_false q] at cq
        by_cases m : inW ES c = true
        · rw [if_pos m]
          have m' := of_decide_eq_true (inEs ▸ m)
          rw [decide_eq_true (by simp; omega)] at ci
          have a1 := dAdd_m acc [39] (by simp; omega)
          have a2 := dAdd_m (acc ++ [39]) [c] (by simp; omega)
          have a3 := dAdd_m (acc ++ [39] ++ [c]) [39] (by simp; omega)
          rw [show mkS [39] = ("'" : Str) from q_ap.symm] at a1 a3
          rw [show mkS [c] = sg c from rfl] at a2
          simp only [List.append_assoc, List.cons_append, List.nil_append] at a2 a3
          simp [cq, ci, a1, a2, a3]
        · rw [if_neg m]
          have m' : ¬ (c = 123 ∨ c = 125 ∨ c = 35 ∨ c = 39) := fun z => m (by rw [inEs]; exact decide_eq_true z)
          rw [decide_eq_false (by simp; omega)] at ci
          have a1 := dAdd_m acc [c] (by simp; omega)
          rw [show mkS [c] = sg c from rfl] at a1
          simp [cq, ci, a1]
    rw [st]
    exact ih
theorem run_lesc (n : Nat) (x : Str) (S : List D) (h : 3 * x.length ≤ 4000000) : run (n + 1) 1007 [.str x] S = .ok (.str (mkS (escT x.cps.toList))) S := by
  rw [run_1007]
  have lp := lesc_loop (run n) (.val (.str x)) S x.cps.toList [] (by rw [len_cps]; simp; omega)
  rw [List.nil_append, show mkS [] = ("" : Str) from rfl] at lp
  have it : items (.str x) = some (x.cps.toList.map fun c => D.str (sg c)) := rfl
  simp [B_1007, it, lp]
/-! gaps -/
def gaps : List Str := ["", "\x20", "\n", "\x20\x20"]
def gaps1 : List Str := ["\x20", "\n", "\x20\x20"]
theorem gaps_ok : ∀ x ∈ gaps, (∀ c ∈ x.cps.toList, inW spW c = true) ∧ x.length ≤ 2 := by
  have h : gaps.all (fun x => x.cps.toList.all (fun c => inW spW c) && decide (x.length ≤ 2)) = true := by decide +kernel
  intro x hx
  have := List.all_eq_true.mp h x hx
  simp only [Bool.and_eq_true, decide_eq_true_eq, List.all_eq_true] at this
  exact this
theorem gaps1_ok : ∀ x ∈ gaps1, x.cps.toList ≠ [] ∧ (∀ c ∈ x.cps.toList, inW spW c = true) ∧ x.length ≤ 2 := by
  have h : gaps1.all (fun x => decide (x.cps.toList ≠ []) && x.cps.toList.all (fun c => inW spW c) && decide (x.length ≤ 2)) = true := by decide +kernel
  intro x hx
  have := List.all_eq_true.mp h x hx
  simp only [Bool.and_eq_true, decide_eq_true_eq, List.all_eq_true] at this
  exact ⟨this.1.1, this.1.2, this.2⟩
theorem run_gap (n : Nat) (loose : Bool) (S : List D) (hS : Bx S) : ∃ g S', run (n + 2) 1008 [.ptr 0, .bl loose] S = .ok (.str (mkS g)) S' ∧ Bx S' ∧ Gap g ∧ g.length ≤ 2 ∧ (loose = false → g = [] ∧ S' = S) := by
  rw [run_1008]
  cases loose with
  | false => exact ⟨[], S, by simp [B_1008]; rfl, hS, gap0, Nat.zero_le _, fun _ => ⟨rfl, rfl⟩⟩
  | true =>
    obtain ⟨r, S1, h1, hS1, r0, r1⟩ := run_draw n 4 (by decide) S hS
    obtain ⟨x, hx, e⟩ := pickS (xs := gaps) r0 (by exact r1)
    have e2 : atI [D.str "", .str "\x20", .str "\n", .str "\x20\x20"] r = some (.str x) := e
    obtain ⟨q1, q2⟩ := gaps_ok x hx
    exact ⟨x.cps.toList, S1, by simp [B_1008, h1, e2, mkS_cps], hS1, q1, by rw [len_cps]; exact q2, fun z => by cases z⟩
theorem run_gap1 (n : Nat) (loose : Bool) (S : List D) (hS : Bx S) : ∃ g S', run (n + 2) 1009 [.ptr 0, .bl loose] S = .ok (.str (mkS g)) S' ∧ Bx S' ∧ Gap1 g ∧ g.length ≤ 2 ∧ (loose = false → g = [32] ∧ S' = S) := by
  rw [run_1009]
  cases loose with
  | false => exact ⟨[32], S, by simp [B_1009]; exact q_sp, hS, gap1_32, by decide, fun _ => ⟨rfl, rfl⟩⟩
  | true =>
    obtain ⟨r, S1, h1, hS1, r0, r1⟩ := run_draw n 3 (by decide) S hS
    obtain ⟨x, hx, e⟩ := pickS (xs := gaps1) r0 (by exact r1)
    have e2 : atI [D.str "\x20", .str "\n", .str "\x20\x20"] r = some (.str x) := e
    obtain ⟨q0, q1, q2⟩ := gaps1_ok x hx
    exact ⟨x.cps.toList, S1, by simp [B_1009, h1, e2, mkS_cps], hS1, ⟨q1, q0⟩, by rw [len_cps]; exact q2, fun z => by cases z⟩
theorem gapE (n : Nat) (loose : Bool) (S : List D) (hS : Bx S) {Γ : List Sl} (h0 : Γ[0]? = some (.val (.ptr 0))) (h2 : Γ[2]? = some (.val (.bl loose))) :
    ∃ g S', eCall (run (n + 2) 1008) (aCons (eV 0) (aCons (eV 2) aNil)) Γ S = .ok (.str (mkS g)) S' ∧ Bx S' ∧ Gap g ∧ g.length ≤ 2 ∧ (loose = false → g = [] ∧ S' = S) := by
  obtain ⟨g, S1, h, r⟩ := run_gap n loose S hS
  exact ⟨g, S1, by simp [h0, h2, h], r⟩
theorem gapE1 (n : Nat) (loose : Bool) (S : List D) (hS : Bx S) {Γ : List Sl} (h0 : Γ[0]? = some (.val (.ptr 0))) (h2 : Γ[2]? = some (.val (.bl loose))) :
    ∃ g S', eCall (run (n + 2) 1009) (aCons (eV 0) (aCons (eV 2) aNil)) Γ S = .ok (.str (mkS g)) S' ∧ Bx S' ∧ Gap1 g ∧ g.length ≤ 2 ∧ (loose = false → g = [32] ∧ S' = S) := by
  obtain ⟨g, S1, h, r⟩ := run_gap1 n loose S hS
  exact ⟨g, S1, by simp [h0, h2, h], r⟩
theorem v_ok {Γ : List Sl} {S : List D} {i : Nat} {x : List Nat} (h : Γ[i]? = some (.val (.str (mkS x)))) : eV i Γ S = .ok (.str (mkS x)) S := by simp [h]
/-- what the writer promises of a message -/
def LW (R : Rec) (m : List Nd) : Prop := ∀ (loose : Bool) (S : List D), Bx S → ∃ w S', R 1010 [.ptr 0, eM m, .bl loose] S = .ok (.str (mkS w)) S' ∧ Bx S' ∧ WrL m w ∧ w.length ≤ lW m ∧ (loose = false → w = stL m ∧ S' = S)
def gW (m0 : D) (loose : Bool) (acc : List Nat) (x4 x5 x6 x7 : Sl) : List Sl := [.val (.ptr 0), .val m0, .val (.bl loose), .val (.str (mkS acc)), x4, x5, x6, x7]
theorem lw_case (n : Nat) (m0 : D) (x4 : Sl) (loose : Bool) (acc : List Nat) (k : Ky) (m : List Nd) (S : List D) (hS : Bx S) (hk : kSz k) (hM : LW (run (n + 2)) m) (hl : acc.length + (kW k + lW m + 20) ≤ 4000000) :
    ∃ w S' x7, L_1010_1 (run (n + 2)) (gW m0 loose acc x4 (.val (eK k)) (.val (eM m)) .non) S = .next (gW m0 loose (acc ++ w) x4 (.val (eK k)) (.val (eM m)) x7) S' ∧ Bx S' ∧ WrC (.mk k m) w ∧ w.length ≤ (kC k).length + lW m + 6 ∧ (loose = false → w = stC (.mk k m) ∧ S' = S) := by
  have kl := kC_len hk
  have h0 : (gW m0 loose acc x4 (.val (eK k)) (.val (eM m)) (.val (.str (mkS (kC k)))))[0]? = some (.val (.ptr 0)) := rfl
  have h2 : (gW m0 loose acc x4 (.val (eK k)) (.val (eM m)) (.val (.str (mkS (kC k)))))[2]? = some (.val (.bl loose)) := rfl
  obtain ⟨g1, S1, e1, hS1, q1, l1, s1⟩ := gapE1 n loose S hS h0 h2
  obtain ⟨g2, S2, e2, hS2, q2, l2, s2⟩ := gapE1 n loose S1 hS1 h0 h2
  obtain ⟨a, S3, e3, hS3, q3, l3, s3⟩ := hM loose S2 hS2
  have em : eCall (run (n + 2) 1010) (aCons (eV 0) (aCons (eV 6) (aCons (eV 2) aNil))) (gW m0 loose acc x4 (.val (eK k)) (.val (eM m)) (.val (.str (mkS (kC k))))) S2 = .ok (.str (mkS a)) S3 := by
    unfold gW
    simp [e3]
  have c1 := c_ok (Γ := gW m0 loose acc x4 (.val (eK k)) (.val (eM m)) (.val (.str (mkS (kC k))))) (S := S2) "{"
  have c2 := c_ok (Γ := gW m0 loose acc x4 (.val (eK k)) (.val (eM m)) (.val (.str (mkS (kC k))))) (S := S3) "}"
  rw [l_ob] at c1
  rw [l_cb] at c2
  have v3 : eV 3 (gW m0 loose acc x4 (.val (eK k)) (.val (eM m)) (.val (.str (mkS (kC k))))) S = .ok (.str (mkS acc)) S := v_ok rfl
  have v7 : eV 7 (gW m0 loose acc x4 (.val (eK k)) (.val (eM m)) (.val (.str (mkS (kC k))))) S1 = .ok (.str (mkS (kC k))) S1 := v_ok rfl
  have main := cat_ok (cat_ok (cat_ok (cat_ok (cat_ok (cat_ok v3 e1 (by omega)) v7 (by rw [List.length_append]; omega)) e2 (by simp only [List.length_append]; omega)) c1 (by simp only [List.length_append, List.length_cons, List.length_nil]; omega)) em (by simp only [List.length_append, List.length_cons, List.length_nil]; omega)) c2 (by simp only [List.length_append, List.length_cons, List.length_nil]; omega)
  have eq : acc ++ g1 ++ kC k ++ g2 ++ [123] ++ a ++ [125] = acc ++ (g1 ++ (kC k ++ (g2 ++ (123 :: (a ++ [125]))))) := by simp
  rw [eq] at main
  refine ⟨g1 ++ (kC k ++ (g2 ++ (123 :: (a ++ [125])))), S3, .val (.str (mkS (kC k))), ?_, hS3, ?_, ?_, ?_⟩
  · rw [e_L_1010_1]
    have sk : sSeq (sSet 7 (eV 5)) (sIf (tNotD (tTru (eUn (dIsi "str") (eV 5)))) (sSet 7 (eOp dAdd (eC (.str "=")) (eUn dStr (eV 5)))) sNext) (gW m0 loose acc x4 (.val (eK k)) (.val (eM m)) .non) S = .next (gW m0 loose acc x4 (.val (eK k)) (.val (eM m)) (.val (.str (mkS (kC k))))) S := by
      unfold gW
      cases k with
      | i i =>
        have i1 := isi_is i
        have i2 := str_nt hk
        have ht := (nt_ok (i := i.toNat) (by have := hk.2; omega)).l3
        have i3 := dAdd_m [61] (nt i.toNat).cps.toList (by rw [len_cps]; simp; omega)
        rw [show mkS [61] = ("=" : Str) from q_eq.symm] at i3
        rw [eK]
        simp [i1, i2, i3, kC]
      | s x =>
        have i1 := isi_ss x
        rw [eK]
        simp [i1, kC, mkS_cps]
    have sq : ∀ (a b c : Ds) Γ S, sSeq a (sSeq b c) Γ S = sSeq (sSeq a b) c Γ S := fun a b c Γ S => by
      simp only [x_sSeq]
      cases a Γ S <;> rfl
    rw [sq, x_sSeq, sk]
    simp only
    rw [x_sSet, main, after_ok]
    rfl
  · rw [WrC]; exact ⟨g1, g2, a, q1, q2.1, q3, rfl⟩
  · simp only [List.length_append, List.length_cons, List.length_nil]; omega
  · intro z
    obtain ⟨rfl, rfl⟩ := s1 z
    obtain ⟨rfl, rfl⟩ := s2 z
    obtain ⟨rfl, rfl⟩ := s3 z
    refine ⟨?_, rfl⟩
    rw [stC]; rfl
theorem stCs_app (a b : List Cs) : stCs (a ++ b) = stCs a ++ stCs b := by
  induction a with
  | nil => rw [List.nil_append, stCs]; rfl
  | cons c r ih => rw [List.cons_append, stCs, stCs, ih, List.append_assoc]
theorem WrCs_snoc : ∀ {cs : List Cs} {c : Cs} {w : List Nat}, WrCs (cs ++ [c]) w → ∃ a b, WrCs cs a ∧ WrC c b ∧ w = a ++ b
  | [], c, w, h => by
    rw [List.nil_append, WrCs] at h
    obtain ⟨a, b, ha, hb, rfl⟩ := h
    rw [WrCs] at hb
    subst hb
    exact ⟨[], a, by rw [WrCs], ha, by simp⟩
  | d :: cs, c, w, h => by
    rw [List.cons_append, WrCs] at h
    obtain ⟨a, b, ha, hb, rfl⟩ := h
    obtain ⟨x, y, hx, hy, rfl⟩ := WrCs_snoc hb
    exact ⟨a ++ x, y, by rw [WrCs]; exact ⟨a, x, ha, hx, rfl⟩, hy, by rw [List.append_assoc]⟩
def tW : List Cs → Nat
  | [] => 0
  | .mk k m :: r => (kC k).length + lW m + 6 + tW r
theorem tW_app (a b : List Cs) : tW (a ++ b) = tW a + tW b := by
  induction a with
  | nil => rw [List.nil_append, tW]; omega
  | cons c r ih => cases c; rw [List.cons_append, tW, tW, ih]; omega
theorem tW_le : ∀ {cs : List Cs}, (∀ c ∈ cs, kSz (cKey c)) → tW cs ≤ csW cs
  | [], _ => Nat.zero_le _
  | .mk k m :: r, h => by
    have h1 := kC_len (h _ List.mem_cons_self)
    have h2 := tW_le (cs := r) fun c hc => h c (List.mem_cons_of_mem _ hc)
    simp only [cKey] at h1
    rw [tW, csW, cW]; omega
theorem lw_cases (n : Nat) (m0 : D) (x4 : Sl) (loose : Bool) : ∀ (cs : List Cs) (acc : List Nat) (S : List D), Bx S → (∀ c ∈ cs, kSz (cKey c) ∧ LW (run (n + 2)) (cMsg c)) → acc.length + csW cs ≤ 4000000 →
    ∃ w S', forD (.tp [.nm 5, .nm 6]) [5, 6, 7] (L_1010_1 (run (n + 2))) (eCs cs) (gW m0 loose acc x4 .non .non .non) S = .next (gW m0 loose (acc ++ w) x4 .non .non .non) S' ∧ Bx S' ∧ WrCs cs w ∧ w.length ≤ tW cs ∧ (loose = false → w = stCs cs ∧ S' = S)
  | [], acc, S, hS, _, _ => ⟨[], S, by rw [eCs, forD, List.append_nil], hS, by rw [WrCs], Nat.zero_le _, fun _ => ⟨by rw [stCs], rfl⟩⟩
  | .mk k m :: cs, acc, S, hS, h, hl => by
    rw [csW, cW] at hl
    have hc := h _ List.mem_cons_self
    simp only [cKey, cMsg] at hc
    obtain ⟨w, S1, x7, e1, hS1, q1, l1, s1⟩ := lw_case n m0 x4 loose acc k m S hS hc.1 hc.2 (by omega)
    have kl := kC_len hc.1
    obtain ⟨w2, S2, e2, hS2, q2, l2, s2⟩ := lw_cases n m0 x4 loose cs (acc ++ w) S1 hS1 (fun c hc => h c (List.mem_cons_of_mem _ hc)) (by rw [List.length_append]; omega)
    refine ⟨w ++ w2, S2, ?_, hS2, by rw [WrCs]; exact ⟨w, w2, q1, q2, rfl⟩, by rw [List.length_append, tW]; omega, fun z => ?_⟩
    · rw [eCs, forD, eC1]
      have bd : (Pat.tp [.nm 5, .nm 6]).bind (.tup [eK k, .lst (eL m)]) (gW m0 loose acc x4 .non .non .non) = some (gW m0 loose acc x4 (.val (eK k)) (.val (eM m)) .non) := by
        unfold gW
        simp [eM]
      rw [bd]
      simp only
      rw [e1]
      have cl : clr [5, 6, 7] (gW m0 loose (acc ++ w) x4 (.val (eK k)) (.val (eM m)) x7) = gW m0 loose (acc ++ w) x4 .non .non .non := rfl
      simp only [cl]
      rw [e2, List.append_assoc]
    · obtain ⟨rfl, rfl⟩ := s1 z
      obtain ⟨rfl, rfl⟩ := s2 z
      exact ⟨by rw [stCs], rfl⟩

end
section
open PySem L2 DL
/-! ### the law's writer: choices, messages -/
/-- the branch of choices -/
def XL (R : Rec) : Ds := (sSeq (sSet 3 (eOp dAdd (eOp dAdd (eOp dAdd (eOp dAdd (eOp dAdd (eV 3) (eC (.str "{"))) (eCall (R 1008) (aCons (eV 0) (aCons (eV 2) aNil)))) (eOp dIdx (eV 4) (eC (.int 1)))) (eCall (R 1008) (aCons (eV 0) (aCons (eV 2) aNil)))) (eC (.str ",")))) (sSeq (sSet 3 (eOp dAdd (eOp dAdd (eOp dAdd (eOp dAdd (eV 3) (eCall (R 1009) (aCons (eV 0) (aCons (eV 2) aNil)))) (eOp dIdx (eV 4) (eC (.int 0)))) (eCall (R 1008) (aCons (eV 0) (aCons (eV 2) aNil)))) (eC (.str ",")))) (sSeq (sIf (tAndD (tB (eOp cEq (eOp dIdx (eV 4) (eC (.int 0))) (eC (.str "plural")))) (tB (eOp oGt (eOp dIdx (eV 4) (eC (.int 2))) (eC (.int 0))))) (sSet 3 (eOp dAdd (eOp dAdd (eOp dAdd (eV 3) (eCall (R 1009) (aCons (eV 0) (aCons (eV 2) aNil)))) (eC (.str "offset:"))) (eUn dStr (eOp dIdx (eV 4) (eC (.int 2)))))) sNext) (sSeq (sFor (iA (eOp dAdd (eOp dIdx (eV 4) (eUn dNeg (eC (.int 2)))) (eLst (aCons (eTup (aCons (eC (.str "other")) (aCons (eOp dIdx (eV 4) (eUn dNeg (eC (.int 1)))) aNil))) aNil)))) (.tp [(.nm 5), (.nm 6)]) [5, 6, 7] (L_1010_1 R)) (sSet 3 (eOp dAdd (eOp dAdd (eV 3) (eCall (R 1008) (aCons (eV 0) (aCons (eV 2) aNil)))) (eC (.str "}"))))))))
theorem L2_eq (R : Rec) : L_1010_2 R = (sIf (tB (eOp cEq (eOp dIdx (eV 4) (eC (.int 0))) (eC (.str "text")))) (sSet 3 (eOp dAdd (eV 3) (eCall (R 1007) (aCons (eOp dIdx (eV 4) (eC (.int 1))) aNil)))) (sIf (tB (eOp cEq (eOp dIdx (eV 4) (eC (.int 0))) (eC (.str "show")))) (sSet 3 (eOp dAdd (eOp dAdd (eOp dAdd (eOp dAdd (eOp dAdd (eV 3) (eC (.str "{"))) (eCall (R 1008) (aCons (eV 0) (aCons (eV 2) aNil)))) (eOp dIdx (eV 4) (eC (.int 1)))) (eCall (R 1008) (aCons (eV 0) (aCons (eV 2) aNil)))) (eC (.str "}")))) (sIf (tB (eOp cEq (eOp dIdx (eV 4) (eC (.int 0))) (eC (.str "number")))) (sSet 3 (eOp dAdd (eV 3) (eC (.str "#")))) (XL R)))) := rfl
/-- what is asked of a choice -/
structure ChW (nm k : Str) (f : Option Int) (cs : List Cs) (o : List Nd) (w : List Nat) : Prop where
  wr : ∃ g1 g2 g3 g4 x c h1 h2 h3 a, Gap g1 ∧ Gap g2 ∧ Gap g3 ∧ Gap g4 ∧ ((f = none ∧ x = []) ∨ ∃ i, f = some i ∧ offW i x) ∧ WrCs cs c ∧ Gap1 h1 ∧ Gap h2 ∧ Gap h3 ∧ WrL o a ∧ w = 123 :: (g1 ++ (nm.cps.toList ++ (g2 ++ (44 :: (g3 ++ (k.cps.toList ++ (g4 ++ (44 :: (x ++ (c ++ othW h1 h2 h3 a))))))))))
theorem set3 (m0 : D) (loose : Bool) (acc w : List Nat) (x4 x5 x6 x7 : Sl) : (gW m0 loose acc x4 x5 x6 x7).set 3 (.val (.str (mkS w))) = gW m0 loose w x4 x5 x6 x7 := rfl
theorem lw_choice (n : Nat) (m0 : D) (loose : Bool) (acc : List Nat) (S : List D) (hS : Bx S) (nd : Nd) (nm k : Str) (f : Option Int) (cs : List Cs) (o : List Nd)
    (i0 : dIdx (eN nd) (.int 0) = some (.str k)) (i1 : dIdx (eN nd) (.int 1) = some (.str nm)) (i2 : ∀ g, f = some g → dIdx (eN nd) (.int 2) = some (.int g))
    (j2 : dIdx (eN nd) (.int (-2)) = some (.lst (eCs cs))) (j1 : dIdx (eN nd) (.int (-1)) = some (.lst (eL o)))
    (hk : (f = none ∧ k = "select") ∨ (f ≠ none ∧ k = "plural")) (hf : ∀ g, f = some g → ∃ i : Nat, g = (i : Int) ∧ i ≤ 9) (hn : nm.length ≤ 8)
    (hM : ∀ c ∈ cs, kSz (cKey c) ∧ LW (run (n + 2)) (cMsg c)) (hO : LW (run (n + 2)) o) (hl : acc.length + (csW cs + lW o + 10 * nm.length + 60) ≤ 3500000) :
    ∃ w S', XL (run (n + 2)) (gW m0 loose acc (.val (eN nd)) .non .non .non) S = .next (gW m0 loose (acc ++ w) (.val (eN nd)) .non .non .non) S' ∧ Bx S' ∧ ChW nm k f cs o w ∧ w.length ≤ csW cs + lW o + 10 * nm.length + 60 ∧
      (loose = false → w = 123 :: (nm.cps.toList ++ (44 :: 32 :: (k.cps.toList ++ (44 :: (ofL f ++ (stCs cs ++ othW [32] [32] [] (stL o))))))) ∧ S' = S) := by
  have nl : nm.cps.toList.length ≤ 8 := by rw [len_cps]; exact hn
  have kl : k.cps.toList.length = 6 := by
    rcases hk with ⟨_, rfl⟩ | ⟨_, rfl⟩
    · exact kd_len.1
    · exact kd_len.2.1
  have G0 : ∀ acc : List Nat, (gW m0 loose acc (.val (eN nd)) .non .non .non)[0]? = some (.val (.ptr 0)) := fun _ => rfl
  have G2 : ∀ acc : List Nat, (gW m0 loose acc (.val (eN nd)) .non .non .non)[2]? = some (.val (.bl loose)) := fun _ => rfl
  have V3 : ∀ (acc : List Nat) (S : List D), eV 3 (gW m0 loose acc (.val (eN nd)) .non .non .non) S = .ok (.str (mkS acc)) S := fun _ _ => v_ok rfl
  have N1 : ∀ (acc : List Nat) (S : List D), eOp dIdx (eV 4) (eC (.int 1)) (gW m0 loose acc (.val (eN nd)) .non .non .non) S = .ok (.str (mkS nm.cps.toList)) S := fun acc S => by
    unfold gW; simp [i1, mkS_cps]
  have N0 : ∀ (acc : List Nat) (S : List D), eOp dIdx (eV 4) (eC (.int 0)) (gW m0 loose acc (.val (eN nd)) .non .non .non) S = .ok (.str (mkS k.cps.toList)) S := fun acc S => by
    unfold gW
    rw [mkS_cps]
    simp only [x_eOp, x_eV, x_eC, List.getElem?_cons_zero, List.getElem?_cons_succ, Res.bind_ok, ref_eN, deref_int, i0, ofO_some]
  have CO : ∀ (acc : List Nat) (S : List D), eC (.str ",") (gW m0 loose acc (.val (eN nd)) .non .non .non) S = .ok (.str (mkS [44])) S := fun acc S => by rw [c_ok, l_co]
  have OB : ∀ (acc : List Nat) (S : List D), eC (.str "{") (gW m0 loose acc (.val (eN nd)) .non .non .non) S = .ok (.str (mkS [123])) S := fun acc S => by rw [c_ok, l_ob]
  have CB : ∀ (acc : List Nat) (S : List D), eC (.str "}") (gW m0 loose acc (.val (eN nd)) .non .non .non) S = .ok (.str (mkS [125])) S := fun acc S => by rw [c_ok, l_cb]
  -- the name
  obtain ⟨g1, S1, e1, hS1, q1, l1, s1⟩ := gapE n loose S hS (G0 acc) (G2 acc)
  obtain ⟨g2, S2, e2, hS2, q2, l2, s2⟩ := gapE n loose S1 hS1 (G0 acc) (G2 acc)
  have p1 := cat_ok (cat_ok (cat_ok (cat_ok (cat_ok (V3 acc S) (OB acc S) (by simp; omega)) e1 (by simp; omega)) (N1 acc S1) (by simp only [List.length_append, List.length_cons, List.length_nil]; omega)) e2 (by simp only [List.length_append, List.length_cons, List.length_nil]; omega)) (CO acc S2) (by simp only [List.length_append, List.length_cons, List.length_nil]; omega)
  generalize ha1 : acc ++ [123] ++ g1 ++ nm.cps.toList ++ g2 ++ [44] = a1 at p1
  have la1 : a1.length ≤ acc.length + 14 := by rw [← ha1]; simp only [List.length_append, List.length_cons, List.length_nil]; omega
  -- the kind
  obtain ⟨g3, S3, e3, hS3, q3, l3, s3⟩ := gapE1 n loose S2 hS2 (G0 a1) (G2 a1)
  obtain ⟨g4, S4, e4, hS4, q4, l4, s4⟩ := gapE n loose S3 hS3 (G0 a1) (G2 a1)
  have p2 := cat_ok (cat_ok (cat_ok (cat_ok (V3 a1 S2) e3 (by omega)) (N0 a1 S3) (by simp only [List.length_append]; omega)) e4 (by simp only [List.length_append]; omega)) (CO a1 S4) (by simp only [List.length_append, List.length_cons, List.length_nil]; omega)
  generalize ha2 : a1 ++ g3 ++ k.cps.toList ++ g4 ++ [44] = a2 at p2
  have la2 : a2.length ≤ acc.length + 25 := by rw [← ha2]; simp only [List.length_append, List.length_cons, List.length_nil]; omega
  -- the offset
  have off : ∃ x S5, sIf (tAndD (tB (eOp cEq (eOp dIdx (eV 4) (eC (.int 0))) (eC (.str "plural")))) (tB (eOp oGt (eOp dIdx (eV 4) (eC (.int 2))) (eC (.int 0))))) (sSet 3 (eOp dAdd (eOp dAdd (eOp dAdd (eV 3) (eCall (run (n + 2) 1009) (aCons (eV 0) (aCons (eV 2) aNil)))) (eC (.str "offset:"))) (eUn dStr (eOp dIdx (eV 4) (eC (.int 2)))))) sNext (gW m0 loose a2 (.val (eN nd)) .non .non .non) S4 = .next (gW m0 loose (a2 ++ x) (.val (eN nd)) .non .non .non) S5 ∧ Bx S5 ∧ ((f = none ∧ x = []) ∨ ∃ i, f = some i ∧ offW i x) ∧ x.length ≤ 12 ∧ (loose = false → x = ofL f ∧ S5 = S4) := by
    rcases hk with ⟨rfl, rfl⟩ | ⟨hf0, rfl⟩
    · have tst : cEq (.str "select") (.str "plural") = some (.bl false) := by show (some _).map D.bl = _; rw [s_sp]; rfl
      refine ⟨[], S4, ?_, hS4, .inl ⟨rfl, rfl⟩, Nat.zero_le _, fun _ => ⟨rfl, rfl⟩⟩
      rw [List.append_nil]
      unfold gW
      simp [i0, tst]
    · cases f with
      | none => exact absurd rfl hf0
      | some g =>
        obtain ⟨i, rfl, hi⟩ := hf g rfl
        have k2 := i2 _ rfl
        by_cases g0 : i = 0
        · subst g0
          refine ⟨[], S4, ?_, hS4, .inr ⟨_, rfl, .inl ⟨rfl, rfl⟩⟩, Nat.zero_le _, fun _ => ⟨rfl, rfl⟩⟩
          rw [List.append_nil]
          unfold gW
          simp [i0, k2]
        · obtain ⟨g5, S5, e5, hS5, q5, l5, s5⟩ := gapE1 n loose S4 hS4 (G0 a2) (G2 a2)
          have ds := str_nt (n := (i : Int)) ⟨by omega, by omega⟩
          rw [Int.toNat_natCast] at ds
          have ntl := (nt_ok (i := i) (by omega)).l3
          have ntl2 : (nt i).cps.toList.length ≤ 3 := by rw [len_cps]; exact ntl
          have ofl := off_len
          have D2 : eUn dStr (eOp dIdx (eV 4) (eC (.int 2))) (gW m0 loose a2 (.val (eN nd)) .non .non .non) S5 = .ok (.str (mkS (nt i).cps.toList)) S5 := by
            unfold gW
            simp [k2, ds]
          have p3 := cat_ok (cat_ok (cat_ok (V3 a2 S4) e5 (by omega)) (c_ok (Γ := gW m0 loose a2 (.val (eN nd)) .non .non .non) OF) (by simp only [List.length_append]; omega)) D2 (by simp only [List.length_append]; omega)
          refine ⟨g5 ++ OF.cps.toList ++ (nt i).cps.toList, S5, ?_, hS5, .inr ⟨_, rfl, .inr ⟨by omega, g5, q5.1, by rw [Int.toNat_natCast]⟩⟩, by simp only [List.length_append]; omega, fun z => ?_⟩
          · have t : tAndD (tB (eOp cEq (eOp dIdx (eV 4) (eC (.int 0))) (eC (.str "plural")))) (tB (eOp oGt (eOp dIdx (eV 4) (eC (.int 2))) (eC (.int 0)))) (gW m0 loose a2 (.val (eN nd)) .non .non .non) S4 = .ok true S4 := by
              have gp : (0 : Int) < (i : Int) := by omega
              unfold gW
              simp [i0, k2]
              omega
            rw [x_sIf, t, after_ok, if_pos rfl, x_sSet]
            unfold OF at p3
            rw [p3, after_ok, set3]
            unfold OF
            simp only [List.append_assoc]
          · obtain ⟨rfl, rfl⟩ := s5 z
            refine ⟨?_, rfl⟩
            show _ = offS (i : Int)
            unfold offS
            rw [if_neg (by omega), Int.toNat_natCast]; rfl
  obtain ⟨x, S5, e5, hS5, q5, l5, s5⟩ := off
  -- the cases
  have co : ∀ c ∈ cs ++ [Cs.mk (.s "other") o], kSz (cKey c) ∧ LW (run (n + 2)) (cMsg c) := fun c hc => by
    rcases List.mem_append.mp hc with hc | hc
    · exact hM c hc
    · rw [List.mem_singleton.mp hc]; exact ⟨trivial, hO⟩
  have ow : csW (cs ++ [Cs.mk (.s "other") o]) = csW cs + lW o + 20 + 52 := by
    rw [csW_app, csW, csW, cW, kW, show ("other" : Str).length = 5 by decide +kernel]; omega
  have tw : tW (cs ++ [Cs.mk (.s "other") o]) ≤ csW cs + lW o + 11 := by
    have := tW_le (cs := cs) fun c hc => (hM c hc).1
    rw [tW_app, tW, tW, kC, kd_len.2.2]; omega
  have cl := csW_len cs
  obtain ⟨w, S6, e6, hS6, q6, l6, s6⟩ := lw_cases n m0 (.val (eN nd)) loose (cs ++ [Cs.mk (.s "other") o]) (a2 ++ x) S5 hS5 co (by rw [ow, List.length_append]; omega)
  have it : iA (eOp dAdd (eOp dIdx (eV 4) (eUn dNeg (eC (.int 2)))) (eLst (aCons (eTup (aCons (eC (.str "other")) (aCons (eOp dIdx (eV 4) (eUn dNeg (eC (.int 1)))) aNil))) aNil))) (gW m0 loose (a2 ++ x) (.val (eN nd)) .non .non .non) S5 = .ok (eCs (cs ++ [Cs.mk (.s "other") o])) S5 := by
    have ad : dAdd (.lst (eCs cs)) (.lst [.tup [.str "other", .lst (eL o)]]) = some (.lst (eCs (cs ++ [Cs.mk (.s "other") o]))) := by
      rw [eCs_app, eCs_one, eC1]
      exact if_pos (Nat.le_trans (show (eCs cs).length + 1 ≤ 5000000 by rw [eCs_len]; omega) (by decide))
    unfold gW
    simp [j1, j2, ad]
  obtain ⟨g6, S7, e7, hS7, q7, l7, s7⟩ := gapE n loose S6 hS6 (G0 (a2 ++ x ++ w)) (G2 (a2 ++ x ++ w))
  have lxw : (a2 ++ x ++ w).length ≤ acc.length + 37 + (csW cs + lW o + 11) := by rw [List.length_append, List.length_append]; omega
  have p4 := cat_ok (cat_ok (V3 (a2 ++ x ++ w) S6) e7 (by omega)) (CB (a2 ++ x ++ w) S7) (by simp only [List.length_append, List.length_cons, List.length_nil] at lxw ⊢; omega)
  obtain ⟨c, d, hc, hd, rfl⟩ := WrCs_snoc q6
  rw [WrC] at hd
  obtain ⟨h1, h2, a, r1, r2, r3, rfl⟩ := hd
  have fin : a2 ++ x ++ (c ++ (h1 ++ (kC (.s "other") ++ (h2 ++ (123 :: (a ++ [125])))))) ++ g6 ++ [125] = acc ++ (123 :: (g1 ++ (nm.cps.toList ++ (g2 ++ (44 :: (g3 ++ (k.cps.toList ++ (g4 ++ (44 :: (x ++ (c ++ othW h1 h2 g6 a))))))))))) := by
    rw [← ha2, ← ha1]
    unfold othW kC
    simp
  rw [fin] at p4
  refine ⟨123 :: (g1 ++ (nm.cps.toList ++ (g2 ++ (44 :: (g3 ++ (k.cps.toList ++ (g4 ++ (44 :: (x ++ (c ++ othW h1 h2 g6 a)))))))))), S7, ?_, hS7, ⟨g1, g2, g3, g4, x, c, h1, h2, g6, a, q1, q2, q3.1, q4, q5, hc, r1, r2, q7, r3, rfl⟩, ?_, fun z => ?_⟩
  · unfold XL
    rw [x_sSeq, x_sSet, p1, after_ok, set3]
    simp only
    rw [x_sSeq, x_sSet, p2, after_ok, set3]
    simp only
    rw [x_sSeq, e5]
    simp only
    rw [x_sSeq, x_sFor, it, after_ok, e6]
    simp only
    rw [x_sSet, p4, after_ok, set3]
  · have e := congrArg List.length fin
    simp only [List.length_append, List.length_cons, List.length_nil] at e lxw ⊢
    have kc : (kC (.s "other")).length = 5 := kd_len.2.2
    rw [kc] at e lxw
    omega
  · obtain ⟨rfl, rfl⟩ := s1 z
    obtain ⟨rfl, rfl⟩ := s2 z
    obtain ⟨rfl, rfl⟩ := s3 z
    obtain ⟨rfl, rfl⟩ := s4 z
    obtain ⟨rfl, rfl⟩ := s5 z
    obtain ⟨ew, rfl⟩ := s6 z
    obtain ⟨rfl, rfl⟩ := s7 z
    refine ⟨?_, rfl⟩
    have key : c ++ othW h1 h2 [] a = stCs cs ++ othW [32] [32] [] (stL o) := by
      have : c ++ othW h1 h2 [] a = (c ++ (h1 ++ (kC (.s "other") ++ (h2 ++ (123 :: (a ++ [125])))))) ++ [125] := by unfold othW kC; simp
      rw [this, ew, stCs_app, stCs, stCs, stC]
      unfold othW kC
      simp
    rw [key]
    simp
theorem vN_mem {ins : Bool} {m : List Nd} {nd : Nd} (h : nd ∈ m) (hv : vL ins m) : vN ins nd := by
  induction m with
  | nil => cases h
  | cons a r ih =>
    rw [vL] at hv
    rcases List.mem_cons.mp h with rfl | h
    · exact hv.1
    · exact ih h hv.2
theorem lw_node (n : Nat) (m0 : D) (loose ins : Bool) (acc : List Nat) (S : List D) (hS : Bx S) (nd : Nd) (hv : vN ins nd) (hM : ∀ m, lH m + 1 ≤ nH nd → lW m ≤ nW nd → ∀ ins, vL ins m → LW (run (n + 2)) m) (hl : acc.length + nW nd ≤ 3500000) :
    ∃ w S', L_1010_2 (run (n + 2)) (gW m0 loose acc (.val (eN nd)) .non .non .non) S = .next (gW m0 loose (acc ++ w) (.val (eN nd)) .non .non .non) S' ∧ Bx S' ∧ WrN nd w ∧ w.length ≤ nW nd ∧ (loose = false → w = stN nd ∧ S' = S) := by
  rw [L2_eq]
  cases nd with
  | text x =>
    rw [vN] at hv; rw [nW] at hl
    have t0 := tag0 (.text x)
    unfold tag at t0
    have t1 := text1 x
    have r := run_lesc (n + 1) x S (by omega)
    replace r : run (n + 2) 1007 [.str x] S = _ := r
    have el := escT_len x.cps.toList
    rw [len_cps] at el
    have ad := dAdd_m acc (escT x.cps.toList) (by omega)
    refine ⟨escT x.cps.toList, S, ?_, hS, by rw [WrN], by rw [nW]; omega, fun _ => ⟨by rw [stN], rfl⟩⟩
    unfold gW
    simp [t0, t1, r, ad]
  | shw x =>
    rw [vN] at hv; rw [nW] at hl
    have t0 := tag0 (.shw x)
    unfold tag at t0
    have t1 : dIdx (eN (.shw x)) (.int 1) = some (.str x) := by rw [eN]; rfl
    have s1 := s_st
    have s2 : (("show" : Str) == "show") = true := by decide +kernel
    have G0 : (gW m0 loose acc (.val (eN (.shw x))) .non .non .non)[0]? = some (.val (.ptr 0)) := rfl
    have G2 : (gW m0 loose acc (.val (eN (.shw x))) .non .non .non)[2]? = some (.val (.bl loose)) := rfl
    obtain ⟨g1, S1, e1, hS1, q1, l1, z1⟩ := gapE n loose S hS G0 G2
    obtain ⟨g2, S2, e2, hS2, q2, l2, z2⟩ := gapE n loose S1 hS1 G0 G2
    have N1 : eOp dIdx (eV 4) (eC (.int 1)) (gW m0 loose acc (.val (eN (.shw x))) .non .non .non) S1 = .ok (.str (mkS x.cps.toList)) S1 := by
      unfold gW; simp [t1, mkS_cps]
    have nl : x.cps.toList.length ≤ 8 := by rw [len_cps]; exact hv.l8
    have V3 : eV 3 (gW m0 loose acc (.val (eN (.shw x))) .non .non .non) S = .ok (.str (mkS acc)) S := v_ok rfl
    have OB : eC (.str "{") (gW m0 loose acc (.val (eN (.shw x))) .non .non .non) S = .ok (.str (mkS [123])) S := by rw [c_ok, l_ob]
    have CB : eC (.str "}") (gW m0 loose acc (.val (eN (.shw x))) .non .non .non) S2 = .ok (.str (mkS [125])) S2 := by rw [c_ok, l_cb]
    have p := cat_ok (cat_ok (cat_ok (cat_ok (cat_ok V3 OB (by simp; omega)) e1 (by simp only [List.length_append, List.length_cons, List.length_nil]; omega)) N1 (by simp only [List.length_append, List.length_cons, List.length_nil]; omega)) e2 (by simp only [List.length_append, List.length_cons, List.length_nil]; omega)) CB (by simp only [List.length_append, List.length_cons, List.length_nil]; omega)
    have eq : acc ++ [123] ++ g1 ++ x.cps.toList ++ g2 ++ [125] = acc ++ (123 :: (g1 ++ (x.cps.toList ++ (g2 ++ [125])))) := by simp
    rw [eq] at p
    have c0 : tB (eOp cEq (eOp dIdx (eV 4) (eC (.int 0))) (eC (.str "text"))) (gW m0 loose acc (.val (eN (.shw x))) .non .non .non) S = .ok false S := by unfold gW; simp [t0, s1]
    have c1 : tB (eOp cEq (eOp dIdx (eV 4) (eC (.int 0))) (eC (.str "show"))) (gW m0 loose acc (.val (eN (.shw x))) .non .non .non) S = .ok true S := by unfold gW; simp [t0, s2]
    refine ⟨123 :: (g1 ++ (x.cps.toList ++ (g2 ++ [125]))), S2, ?_, hS2, by rw [WrN]; exact ⟨g1, g2, q1, q2, rfl⟩, ?_, fun z => ?_⟩
    · rw [x_sIf, c0, after_ok, if_neg (by decide), x_sIf, c1, after_ok, if_pos rfl, x_sSet, p, after_ok, set3]
    · rw [nW]; rw [len_cps] at nl; simp only [List.length_append, List.length_cons, List.length_nil, len_cps]; omega
    · obtain ⟨rfl, rfl⟩ := z1 z
      obtain ⟨rfl, rfl⟩ := z2 z
      exact ⟨by rw [stN]; rfl, rfl⟩
  | num =>
    have t0 := tag0 .num
    unfold tag at t0
    have s1 := s_nt
    have s2 : (("number" : Str) == "show") = false := by decide +kernel
    have ad := dAdd_m acc [35] (by simp; omega)
    rw [show mkS [35] = ("#" : Str) from q_nu.symm] at ad
    refine ⟨[35], S, ?_, hS, by rw [WrN], by rw [nW]; decide, fun _ => ⟨by rw [stN], rfl⟩⟩
    unfold gW
    simp [t0, s1, s2, ad]
  | sel x cs o =>
    have hv0 := hv
    rw [vN] at hv
    have hw : nW (.sel x cs o) = 10 * x.length + csW cs + lW o + 60 := by rw [nW]
    have hh : nH (.sel x cs o) = max (csH cs) (lH o) + 1 := by rw [nH]
    rw [hw] at hl hM
    rw [hh] at hM
    have t0 := tag0 (.sel x cs o)
    unfold tag at t0
    have s1 := s_lt
    have s2 : (("select" : Str) == "show") = false := by decide +kernel
    have s3 : (("select" : Str) == "number") = false := by decide +kernel
    obtain ⟨w, S1, e, hS1, c, l, z⟩ := lw_choice n m0 loose acc S hS (.sel x cs o) x "select" none cs o t0 (by rw [eN]; rfl) (fun g hg => by cases hg) (by rw [eN]; rfl) (by rw [eN]; rfl) (.inl ⟨rfl, rfl⟩) (fun g hg => by cases hg) hv.1.l8
      (fun c hc => ⟨ks_of (hv.2.1 c hc), by
        have h1 := mem_csH hc
        have h2 := mem_csW hc
        refine hM (cMsg c) ?_ ?_ ins (vCs_mem hc hv.2.2.2.1)
        · cases c; rw [cH] at h1; simp only [cMsg]; omega
        · cases c; rw [cW] at h2; simp only [cMsg]; omega⟩) (hM o (by omega) (by omega) ins hv.2.2.2.2) (by omega)
    have c0 : tB (eOp cEq (eOp dIdx (eV 4) (eC (.int 0))) (eC (.str "text"))) (gW m0 loose acc (.val (eN (.sel x cs o))) .non .non .non) S = .ok false S := by unfold gW; simp [t0, s1]
    have c1 : tB (eOp cEq (eOp dIdx (eV 4) (eC (.int 0))) (eC (.str "show"))) (gW m0 loose acc (.val (eN (.sel x cs o))) .non .non .non) S = .ok false S := by unfold gW; simp [t0, s2]
    have c2 : tB (eOp cEq (eOp dIdx (eV 4) (eC (.int 0))) (eC (.str "number"))) (gW m0 loose acc (.val (eN (.sel x cs o))) .non .non .non) S = .ok false S := by unfold gW; simp [t0, s3]
    refine ⟨w, S1, ?_, hS1, ?_, by rw [hw]; omega, fun q => ?_⟩
    · rw [x_sIf, c0, after_ok, if_neg (by decide), x_sIf, c1, after_ok, if_neg (by decide), x_sIf, c2, after_ok, if_neg (by decide), e]
    · obtain ⟨g1, g2, g3, g4, y, cc, h1, h2, h3, a, r1, r2, r3, r4, r5, r6, r7, r8, r9, r10, rfl⟩ := c.wr
      rcases r5 with ⟨_, rfl⟩ | ⟨i, hi, _⟩
      · rw [WrN]; exact ⟨g1, g2, g3, g4, cc, h1, h2, h3, a, r1, r2, r3, r4, r6, r7, r8, r9, r10, rfl⟩
      · cases hi
    · obtain ⟨z1, z2⟩ := z q
      exact ⟨by rw [z1, stN]; rfl, z2⟩
  | plu x f cs o =>
    rw [vN] at hv
    have hw : nW (.plu x f cs o) = 10 * x.length + (toString f : Str).length + csW cs + lW o + 60 := by rw [nW]
    have hh : nH (.plu x f cs o) = max (csH cs) (lH o) + 1 := by rw [nH]
    rw [hw] at hl hM
    rw [hh] at hM
    have t0 := tag0 (.plu x f cs o)
    unfold tag at t0
    have s1 := s_pt
    have s2 : (("plural" : Str) == "show") = false := by decide +kernel
    have s3 : (("plural" : Str) == "number") = false := by decide +kernel
    obtain ⟨w, S1, e, hS1, c, l, z⟩ := lw_choice n m0 loose acc S hS (.plu x f cs o) x "plural" (some f) cs o t0 (by rw [eN]; rfl) (fun g hg => by cases hg; rw [eN]; rfl) (by rw [eN]; rfl) (by rw [eN]; rfl) (.inr ⟨by simp, rfl⟩) (fun g hg => by cases hg; exact hv.2.1) hv.1.l8
      (fun c hc => ⟨ks_of (hv.2.2.1 c hc), by
        have h1 := mem_csH hc
        have h2 := mem_csW hc
        refine hM (cMsg c) ?_ ?_ true (vCs_mem hc hv.2.2.2.2.1)
        · cases c; rw [cH] at h1; simp only [cMsg]; omega
        · cases c; rw [cW] at h2; simp only [cMsg]; omega⟩) (hM o (by omega) (by omega) true hv.2.2.2.2.2) (by omega)
    have c0 : tB (eOp cEq (eOp dIdx (eV 4) (eC (.int 0))) (eC (.str "text"))) (gW m0 loose acc (.val (eN (.plu x f cs o))) .non .non .non) S = .ok false S := by unfold gW; simp [t0, s1]
    have c1 : tB (eOp cEq (eOp dIdx (eV 4) (eC (.int 0))) (eC (.str "show"))) (gW m0 loose acc (.val (eN (.plu x f cs o))) .non .non .non) S = .ok false S := by unfold gW; simp [t0, s2]
    have c2 : tB (eOp cEq (eOp dIdx (eV 4) (eC (.int 0))) (eC (.str "number"))) (gW m0 loose acc (.val (eN (.plu x f cs o))) .non .non .non) S = .ok false S := by unfold gW; simp [t0, s3]
    refine ⟨w, S1, ?_, hS1, ?_, by rw [hw]; omega, fun q => ?_⟩
    · rw [x_sIf, c0, after_ok, if_neg (by decide), x_sIf, c1, after_ok, if_neg (by decide), x_sIf, c2, after_ok, if_neg (by decide), e]
    · obtain ⟨g1, g2, g3, g4, y, cc, h1, h2, h3, a, r1, r2, r3, r4, r5, r6, r7, r8, r9, r10, rfl⟩ := c.wr
      rcases r5 with ⟨hi, _⟩ | ⟨i, hi, ho⟩
      · cases hi
      · cases hi
        rw [WrN]; exact ⟨g1, g2, g3, g4, y, cc, h1, h2, h3, a, r1, r2, r3, r4, ho, r6, r7, r8, r9, r10, rfl⟩
    · obtain ⟨z1, z2⟩ := z q
      exact ⟨by rw [z1, stN]; rfl, z2⟩
theorem lw_loop (n : Nat) (m0 : D) (loose ins : Bool) : ∀ (m : List Nd) (acc : List Nat) (S : List D), Bx S → vL ins m → (∀ k, lH k + 1 ≤ lH m → lW k ≤ lW m → ∀ ins, vL ins k → LW (run (n + 2)) k) → acc.length + lW m ≤ 3500000 →
    ∃ w S', forD (.nm 4) [4, 5, 6, 7] (L_1010_2 (run (n + 2))) (eL m) (gW m0 loose acc .non .non .non .non) S = .next (gW m0 loose (acc ++ w) .non .non .non .non) S' ∧ Bx S' ∧ WrL m w ∧ w.length ≤ lW m ∧ (loose = false → w = stL m ∧ S' = S)
  | [], acc, S, hS, _, _, _ => ⟨[], S, by rw [eL, forD, List.append_nil], hS, by rw [WrL], Nat.zero_le _, fun _ => ⟨by rw [stL], rfl⟩⟩
  | nd :: r, acc, S, hS, hv, hM, hl => by
    rw [vL] at hv; rw [lW] at hl
    have h1 : nH nd ≤ lH (nd :: r) := by rw [lH]; omega
    have h2 : lH r ≤ lH (nd :: r) := by rw [lH]; omega
    have h3 : nW nd ≤ lW (nd :: r) := by rw [lW]; omega
    have h4 : lW r ≤ lW (nd :: r) := by rw [lW]; omega
    obtain ⟨w, S1, e1, hS1, q1, l1, z1⟩ := lw_node n m0 loose ins acc S hS nd hv.1 (fun k a b => hM k (by omega) (by omega)) (by omega)
    obtain ⟨w2, S2, e2, hS2, q2, l2, z2⟩ := lw_loop n m0 loose ins r (acc ++ w) S1 hS1 hv.2 (fun k a b => hM k (by omega) (by omega)) (by rw [List.length_append]; omega)
    refine ⟨w ++ w2, S2, ?_, hS2, by rw [WrL]; exact ⟨w, w2, q1, q2, rfl⟩, by rw [List.length_append, lW]; omega, fun q => ?_⟩
    · rw [eL, forD, x_bnm]
      have bd : (gW m0 loose acc .non .non .non .non).set 4 (.val (eN nd)) = gW m0 loose acc (.val (eN nd)) .non .non .non := rfl
      simp only [bd]
      rw [e1]
      have cl : clr [4, 5, 6, 7] (gW m0 loose (acc ++ w) (.val (eN nd)) .non .non .non) = gW m0 loose (acc ++ w) .non .non .non .non := rfl
      simp only [cl]
      rw [e2, List.append_assoc]
    · obtain ⟨rfl, rfl⟩ := z1 q
      obtain ⟨rfl, rfl⟩ := z2 q
      exact ⟨by rw [stL], rfl⟩
theorem run_written : ∀ (n : Nat) (m : List Nd) (ins : Bool), vL ins m → lW m ≤ 1500000 → lH m + 3 ≤ n → LW (run n) m
  | 0, _, _, _, _, h => by omega
  | n + 1, m, ins, hv, hw, hn => fun loose S hS => by
    obtain ⟨k, rfl⟩ : ∃ k, n = k + 2 := ⟨n - 2, by omega⟩
    obtain ⟨w, S1, e, hS1, q, l, z⟩ := lw_loop k (eM m) loose ins m [] S hS hv (fun c a b ins hc => run_written (k + 2) c ins hc (by omega) (by omega)) (by simp; omega)
    rw [List.nil_append] at e
    refine ⟨w, S1, ?_, hS1, q, l, z⟩
    rw [run_1010]
    have e0 : gW (eM m) loose [] .non .non .non .non = [.val (.ptr 0), .val (eM m), .val (.bl loose), .val (.str ""), .non, .non, .non, .non] := rfl
    rw [e0] at e
    unfold gW at e
    have it : items (eM m) = some (eL m) := rfl
    simp [B_1010, it, e]

end
section
open PySem L2 DL
/-! ### messages that are drawn -/
def txts : List Str := ["a", "b ", " files", "'", "{x}", "#", "a'{'", "1\n2", "other {", "~"]
def selKs : List Str := ["a", "one", "select"]
def pluKs : List Ky := [.i 0, .i 1, .i 2, .i 12, .s "zero", .s "one", .s "two", .s "few", .s "many"]
def nms : List Str := ["w", "kind", "n", "count", "who"]
mutual
def wfN : Bool → Nd → Prop
  | _, .text x => x ∈ txts
  | _, .shw n => n ∈ nms
  | ins, .num => ins = true
  | ins, .sel n cs o => n ∈ nms ∧ (cs.map cKey).Sublist (selKs.map Ky.s) ∧ wfCs ins cs ∧ wfL ins o
  | _, .plu n f cs o => n ∈ nms ∧ f ∈ ([0, 1, 2] : List Int) ∧ (∃ ks : List Ky, ks.Sublist pluKs ∧ (cs.map cKey = ks ∨ cs.map cKey = ks.reverse)) ∧ wfCs true cs ∧ wfL true o
def wfL : Bool → List Nd → Prop
  | _, [] => True
  | ins, n :: r => wfN ins n ∧ wfL ins r
def wfC : Bool → Cs → Prop
  | ins, .mk _ m => wfL ins m
def wfCs : Bool → List Cs → Prop
  | _, [] => True
  | ins, c :: r => wfC ins c ∧ wfCs ins r
end
theorem wfL_snoc {ins : Bool} {m : List Nd} {n : Nd} (h : wfL ins m) (hn : wfN ins n) : wfL ins (m ++ [n]) := by
  induction m with
  | nil => rw [List.nil_append, wfL, wfL]; exact ⟨hn, trivial⟩
  | cons x r ih => rw [wfL] at h; rw [List.cons_append, wfL]; exact ⟨h.1, ih h.2⟩
theorem wfL_app {ins : Bool} {a b : List Nd} (h : wfL ins a) (k : wfL ins b) : wfL ins (a ++ b) := by
  induction a with
  | nil => exact k
  | cons x r ih => rw [wfL] at h; rw [List.cons_append, wfL]; exact ⟨h.1, ih h.2⟩
theorem wfCs_snoc {ins : Bool} {m : List Cs} {n : Cs} (h : wfCs ins m) (hn : wfC ins n) : wfCs ins (m ++ [n]) := by
  induction m with
  | nil => rw [List.nil_append, wfCs, wfCs]; exact ⟨hn, trivial⟩
  | cons x r ih => rw [wfCs] at h; rw [List.cons_append, wfCs]; exact ⟨h.1, ih h.2⟩
theorem wfCs_rev {ins : Bool} {m : List Cs} (h : wfCs ins m) : wfCs ins m.reverse := by
  induction m with
  | nil => exact h
  | cons x r ih => rw [wfCs] at h; rw [List.reverse_cons]; exact wfCs_snoc (ih h.2) h.1
structure GM (d w : Nat) (ins : Bool) (m : List Nd) : Prop where
  wf : wfL ins m
  g : gL m
  ok : lOk m = true
  h : lH m ≤ d
  w : lW m ≤ w
theorem txts_ok : ∀ x ∈ txts, sOk x = true ∧ x.length ≤ 10 ∧ x ≠ "" := by
  have h : txts.all (fun x => sOk x && decide (x.length ≤ 10) && decide (x ≠ "")) = true := by decide +kernel
  intro x hx
  have := List.all_eq_true.mp h x hx
  simpa [and_assoc] using this
theorem run_string (n : Nat) (S : List D) (hS : Bx S) : ∃ (x : Str) (S' : List D), run (n + 2) 1003 [.ptr 0] S = .ok (.str x) S' ∧ Bx S' ∧ sOk x = true ∧ x.length ≤ 10 ∧ x ≠ "" ∧ x ∈ txts := by
  rw [run_1003]
  obtain ⟨r, S1, h1, hS1, r0, r1⟩ := run_draw n 10 (by decide) S hS
  obtain ⟨x, hx, e⟩ := pickS (xs := txts) r0 (by exact r1)
  have e2 : atI [D.str "a", .str "b ", .str " files", .str "'", .str "{x}", .str "#", .str "a'{'", .str "1\n2", .str "other {", .str "~"] r = some (.str x) := e
  obtain ⟨q1, q2, q3⟩ := txts_ok x hx
  exact ⟨x, S1, by simp [B_1003, h1, e2], hS1, q1, q2, q3, hx⟩
theorem names_ok : ∀ x ∈ nms, sOk x = true ∧ x.length ≤ 10 := by
  have h : nms.all (fun x => sOk x && decide (x.length ≤ 10)) = true := by decide +kernel
  intro x hx
  have := List.all_eq_true.mp h x hx
  simpa using this
/-- what a message's maker promises -/
def MkM (R : Rec) (d w : Nat) : Prop := ∀ (ins : Bool) (S : List D), Bx S → ∃ (m : List Nd) (S' : List D), R 1006 [.ptr 0, .int d, .bl ins] S = .ok (eM m) S' ∧ Bx S' ∧ GM d w ins m
structure GC (d w : Nat) (ins : Bool) (Ks : List Ky) (j : Nat) (cs : List Cs) : Prop where
  wf : wfCs ins cs
  ks : (cs.map cKey).Sublist (Ks.take j)
  g : gCs cs
  ok : csOk cs = true
  h : csH cs ≤ d
  w : csW cs ≤ j * w
  l : cs.length ≤ j
theorem GC.nil (d w : Nat) (ins : Bool) (Ks : List Ky) : GC d w ins Ks 0 [] := ⟨by rw [wfCs]; trivial, List.nil_sublist _, by rw [gCs]; trivial, by rw [csOk], by rw [csH]; omega, by rw [csW]; omega, Nat.le_refl _⟩
theorem GC.more {d w j : Nat} {ins : Bool} {Ks : List Ky} {cs : List Cs} (h : GC d w ins Ks j cs) : GC d w ins Ks (j + 1) cs := ⟨h.wf, h.ks.trans (List.take_sublist_take_left (by omega)), h.g, h.ok, h.h, by have := h.w; rw [Nat.succ_mul]; omega, by have := h.l; omega⟩
theorem GC.snoc {d w j : Nat} {ins : Bool} {Ks : List Ky} {cs : List Cs} {k : Ky} {m : List Nd} (h : GC d (w + 100) ins Ks j cs) (hj : Ks[j]? = some k) (hk : kOk k = true) (hkw : kW k ≤ 70) (hm : GM d w ins m) : GC d (w + 100) ins Ks (j + 1) (cs ++ [.mk k m]) where
  wf := wfCs_snoc h.wf (by rw [wfC]; exact hm.wf)
  ks := by
    have e : Ks.take (j + 1) = Ks.take j ++ [k] := by rw [List.take_add_one, hj]; rfl
    rw [e, List.map_append]
    exact h.ks.append (List.Sublist.refl _)
  g := gCs_snoc h.g (by rw [gC]; exact hm.g)
  ok := by rw [csOk_app, h.ok, csOk, csOk, cOk, hk, hm.ok]; rfl
  h := by have := h.h; have := hm.h; rw [csH_app, csH, csH, cH]; omega
  w := by have := h.w; have := hm.w; rw [csW_app, csW, csW, cW, Nat.succ_mul]; omega
  l := by have := h.l; rw [List.length_append]; show cs.length + 1 ≤ _; omega
structure GR (d w : Nat) (ins : Bool) (j : Nat) (cs : List Cs) : Prop where
  wf : wfCs ins cs
  ks : ∃ ks : List Ky, ks.Sublist pluKs ∧ (cs.map cKey = ks ∨ cs.map cKey = ks.reverse)
  g : gCs cs
  ok : csOk cs = true
  h : csH cs ≤ d
  w : csW cs ≤ j * w
  l : cs.length ≤ j
theorem GC.same {d w j : Nat} {ins : Bool} {cs : List Cs} (h : GC d w ins pluKs j cs) : GR d w ins j cs := ⟨h.wf, ⟨_, h.ks.trans (List.take_sublist _ _), .inl rfl⟩, h.g, h.ok, h.h, h.w, h.l⟩
theorem GC.rev {d w j : Nat} {ins : Bool} {cs : List Cs} (h : GC d w ins pluKs j cs) : GR d w ins j cs.reverse where
  wf := wfCs_rev h.wf
  ks := ⟨_, h.ks.trans (List.take_sublist _ _), .inr (by rw [List.map_reverse])⟩
  g := gCs_rev h.g
  ok := by
    have key : ∀ xs : List Cs, csOk xs.reverse = csOk xs := fun xs => by
      induction xs with
      | nil => rfl
      | cons x r ih => rw [List.reverse_cons, csOk_app, ih, csOk, csOk, csOk, Bool.and_true, Bool.and_comm]
    rw [key]; exact h.ok
  h := by
    have key : ∀ xs : List Cs, csH xs.reverse = csH xs := fun xs => by
      induction xs with
      | nil => rfl
      | cons x r ih => rw [List.reverse_cons, csH_app, ih, csH, csH, csH]; omega
    rw [key]; exact h.h
  w := by
    have key : ∀ xs : List Cs, csW xs.reverse = csW xs := fun xs => by
      induction xs with
      | nil => rfl
      | cons x r ih => rw [List.reverse_cons, csW_app, ih, csW, csW, csW]; omega
    rw [key]; exact h.w
  l := by rw [List.length_reverse]; exact h.l
theorem selKs_ok : ∀ x ∈ selKs, kOk (.s x) = true ∧ kW (.s x) ≤ 70 := by
  have h : selKs.all (fun x => sOk x && decide (10 * x.length + 2 ≤ 70)) = true := by decide +kernel
  intro x hx
  have := List.all_eq_true.mp h x hx
  simpa [kOk, kW] using this
theorem sel_loop (n d w : Nat) (ins : Bool) (hM : MkM (run (n + 1)) d w) (S : List D) (hS : Bx S) :
    WO (forD (.nm 4) [4] (L_1004_1 (run (n + 1))) (selKs.map D.str) [.val (.ptr 0), .val (.int ((d + 1 : Nat) : Int)), .val (.bl ins), .own (.lst []), .non] S)
      (fun Γ S2 => ∃ cs, Γ = [.val (.ptr 0), .val (.int ((d + 1 : Nat) : Int)), .val (.bl ins), .own (.lst (eCs cs)), .non] ∧ Bx S2 ∧ GC d (w + 100) ins (selKs.map Ky.s) 3 cs) (fun _ _ => False) := by
  refine forD_wp (fun j Γ S2 => ∃ cs, Γ = [.val (.ptr 0), .val (.int ((d + 1 : Nat) : Int)), .val (.bl ins), .own (.lst (eCs cs)), .non] ∧ Bx S2 ∧ GC d (w + 100) ins (selKs.map Ky.s) j cs) _ 0 _ S ⟨[], by rw [eCs], hS, GC.nil _ _ _ _⟩ (fun j x Γ S2 hx ⟨cs, hΓ, hS2, hc⟩ => ?_) (fun Γ S2 h => by simpa [selKs] using h)
  subst hΓ
  rw [List.getElem?_map] at hx
  cases hk : selKs[j]? with
  | none => rw [hk] at hx; cases hx
  | some k =>
    rw [hk] at hx; cases hx
    rw [Nat.zero_add] at hc
    obtain ⟨k1, k2⟩ := selKs_ok k (List.mem_of_getElem? hk)
    have hj : j < 3 := (List.getElem?_eq_some_iff.mp hk).1
    refine ⟨_, x_bnm, ?_⟩
    rw [e_L_1004_1]
    obtain ⟨r, S3, h3, hS3, _, _⟩ := run_draw n 3 (by decide) S2 hS2
    by_cases hr : r = 0
    · subst hr
      obtain ⟨m, S4, h4, hS4, gm⟩ := hM ins S3 hS3
      have hl : cs.length < sizeLine := Nat.lt_of_le_of_lt (show cs.length ≤ 5000000 by have := hc.l; omega) (by decide)
      have e2 : eCs cs ++ [.tup [.str k, .lst (eL m)]] = eCs (cs ++ [.mk (.s k) m]) := by rw [eCs_app, eCs_one, eC1, eK]
      have sb : ((d : Int) + 1 - 1) = (d : Int) := by omega
      unfold eM at h4
      simp [h3, sb, h4, hl, e2, WT]
      exact ⟨_, rfl, hS4, hc.snoc (by rw [List.getElem?_map, hk]; rfl) k1 k2 gm⟩
    · have hr2 : (r == 0) = false := by simpa using hr
      simp [h3, hr, hr2, WT]
      exact ⟨cs, rfl, hS3, hc.more⟩
theorem run_select (n d w : Nat) (ins : Bool) (hM : MkM (run (n + 1)) d w) (S : List D) (hS : Bx S) : ∃ (nd : Nd) (S' : List D), run (n + 2) 1004 [.ptr 0, .int ((d + 1 : Nat) : Int), .bl ins] S = .ok (eN nd) S' ∧ Bx S' ∧ gN nd ∧ nOk nd = true ∧ nH nd ≤ d + 1 ∧ nW nd ≤ 10 * (w + 100) ∧ isT nd = false ∧ wfN ins nd := by
  rw [run_1004]
  have lp := sel_loop n d w ins hM S hS
  revert lp
  generalize hf : forD (.nm 4) [4] (L_1004_1 (run (n + 1))) (selKs.map D.str) [.val (.ptr 0), .val (.int ((d + 1 : Nat) : Int)), .val (.bl ins), .own (.lst []), .non] S = o
  intro lp
  cases o with
  | next Γ S1 =>
    obtain ⟨cs, rfl, hS1, hc⟩ := lp
    obtain ⟨r, S2, h2, hS2, r0, r1⟩ := run_draw n 2 (by decide) S1 hS1
    obtain ⟨x, hx, e⟩ := pickS (xs := ["w", "kind"]) r0 (by exact r1)
    obtain ⟨m, S3, h3, hS3, gm⟩ := hM ins S2 hS2
    have hxn : x ∈ nms := by
      simp only [nms, List.mem_cons, List.not_mem_nil, or_false] at hx ⊢
      rcases hx with h | h <;> simp [h]
    have nx := names_ok x hxn
    have sb : ((d : Int) + 1 - 1) = (d : Int) := by omega
    have e2 : atI [D.str "w", .str "kind"] r = some (.str x) := e
    have f2 : forD (.nm 4) [4] (L_1004_1 (run (n + 1))) [.str "a", .str "one", .str "select"] [.val (.ptr 0), .val (.int ((d : Int) + 1)), .val (.bl ins), .own (.lst []), .non] S = .next [.val (.ptr 0), .val (.int ((d : Int) + 1)), .val (.bl ins), .own (.lst (eCs cs)), .non] S1 := hf
    unfold eM at h3
    refine ⟨.sel x cs m, S3, ?_, hS3, ?_, ?_, ?_, ?_, rfl, ?_⟩
    · rw [eN]
      simp [B_1004, f2, h2, e2, sb, h3]
    · rw [gN]; exact ⟨hc.g, gm.g⟩
    · rw [nOk, nx.1, hc.ok, gm.ok]; rfl
    · have := hc.h; have := gm.h; rw [nH]; omega
    · have := hc.w; have := gm.w; have := nx.2; rw [nW]; omega
    · rw [wfN]; exact ⟨hxn, hc.ks.trans (List.take_sublist _ _), hc.wf, gm.wf⟩
  | _ => exact lp.elim

theorem pluKs_ok : ∀ x ∈ pluKs, kOk x = true ∧ kW x ≤ 70 := by
  have h : pluKs.all (fun x => kOk x && decide (kW x ≤ 70)) = true := by decide +kernel
  intro x hx
  have := List.all_eq_true.mp h x hx
  simpa using this
theorem plu_loop (n d w : Nat) (hM : MkM (run (n + 1)) d w) (S : List D) (hS : Bx S) :
    WO (forD (.nm 3) [3] (L_1005_1 (run (n + 1))) (pluKs.map eK) [.val (.ptr 0), .val (.int ((d + 1 : Nat) : Int)), .own (.lst []), .non] S)
      (fun Γ S2 => ∃ cs, Γ = [.val (.ptr 0), .val (.int ((d + 1 : Nat) : Int)), .own (.lst (eCs cs)), .non] ∧ Bx S2 ∧ GC d (w + 100) true pluKs 9 cs) (fun _ _ => False) := by
  refine forD_wp (fun j Γ S2 => ∃ cs, Γ = [.val (.ptr 0), .val (.int ((d + 1 : Nat) : Int)), .own (.lst (eCs cs)), .non] ∧ Bx S2 ∧ GC d (w + 100) true pluKs j cs) _ 0 _ S ⟨[], by rw [eCs], hS, GC.nil _ _ _ _⟩ (fun j x Γ S2 hx ⟨cs, hΓ, hS2, hc⟩ => ?_) (fun Γ S2 h => by simpa [pluKs] using h)
  subst hΓ
  rw [List.getElem?_map] at hx
  cases hk : pluKs[j]? with
  | none => rw [hk] at hx; cases hx
  | some k =>
    rw [hk] at hx; cases hx
    rw [Nat.zero_add] at hc
    obtain ⟨k1, k2⟩ := pluKs_ok k (List.mem_of_getElem? hk)
    have hj : j < 9 := (List.getElem?_eq_some_iff.mp hk).1
    refine ⟨_, x_bnm, ?_⟩
    rw [e_L_1005_1]
    obtain ⟨r, S3, h3, hS3, _, _⟩ := run_draw n 5 (by decide) S2 hS2
    by_cases hr : r = 0
    · subst hr
      obtain ⟨m, S4, h4, hS4, gm⟩ := hM true S3 hS3
      have hl : cs.length < sizeLine := Nat.lt_of_le_of_lt (show cs.length ≤ 5000000 by have := hc.l; omega) (by decide)
      have e2 : eCs cs ++ [.tup [eK k, .lst (eL m)]] = eCs (cs ++ [.mk k m]) := by rw [eCs_app, eCs_one, eC1]
      have sb : ((d : Int) + 1 - 1) = (d : Int) := by omega
      unfold eM at h4
      simp [h3, sb, h4, hl, e2, WT]
      exact ⟨_, rfl, hS4, hc.snoc hk k1 k2 gm⟩
    · have hr2 : (r == 0) = false := by simpa using hr
      simp [h3, hr, hr2, WT]
      exact ⟨cs, rfl, hS3, hc.more⟩
theorem run_plural (n d w : Nat) (hM : MkM (run (n + 1)) d w) (S : List D) (hS : Bx S) : ∃ (nd : Nd) (S' : List D), run (n + 2) 1005 [.ptr 0, .int ((d + 1 : Nat) : Int)] S = .ok (eN nd) S' ∧ Bx S' ∧ gN nd ∧ nOk nd = true ∧ nH nd ≤ d + 1 ∧ nW nd ≤ 10 * (w + 110) ∧ isT nd = false ∧ ∀ ins, wfN ins nd := by
  rw [run_1005]
  have lp := plu_loop n d w hM S hS
  revert lp
  generalize hf : forD (.nm 3) [3] (L_1005_1 (run (n + 1))) (pluKs.map eK) [.val (.ptr 0), .val (.int ((d + 1 : Nat) : Int)), .own (.lst []), .non] S = o
  intro lp
  cases o with
  | next Γ S1 =>
    obtain ⟨cs, rfl, hS1, hc⟩ := lp
    obtain ⟨q, S1', hq, hS1', _, _⟩ := run_draw n 3 (by decide) S1 hS1
    obtain ⟨r, S2, h2, hS2, r0, r1⟩ := run_draw n 2 (by decide) S1' hS1'
    obtain ⟨x, hx, e⟩ := pickS (xs := ["n", "count"]) r0 (by exact r1)
    obtain ⟨t, S2', h2', hS2', t0, t1⟩ := run_draw n 4 (by decide) S2 hS2
    obtain ⟨f, hf2, ef⟩ := pickI (xs := [0, 0, 1, 2]) t0 (by exact t1)
    obtain ⟨m, S3, h3, hS3, gm⟩ := hM true S2' hS2'
    have hxn : x ∈ nms := by
      simp only [nms, List.mem_cons, List.not_mem_nil, or_false] at hx ⊢
      rcases hx with h | h <;> simp [h]
    have nx := names_ok x hxn
    have fo : iOk f = true ∧ (toString f : Str).length ≤ 10 := by
      have h : ([0, 0, 1, 2] : List Int).all (fun f => iOk f && decide ((toString f : Str).length ≤ 10)) = true := by decide +kernel
      have := List.all_eq_true.mp h f hf2
      simpa using this
    have sb : ((d : Int) + 1 - 1) = (d : Int) := by omega
    have e2 : atI [D.str "n", .str "count"] r = some (.str x) := e
    have e3 : atI [D.int 0, .int 0, .int 1, .int 2] t = some (.int f) := ef
    have f2 : forD (.nm 3) [3] (L_1005_1 (run (n + 1))) [.int 0, .int 1, .int 2, .int 12, .str "zero", .str "one", .str "two", .str "few", .str "many"] [.val (.ptr 0), .val (.int ((d : Int) + 1)), .own (.lst []), .non] S = .next [.val (.ptr 0), .val (.int ((d : Int) + 1)), .own (.lst (eCs cs)), .non] S1 := hf
    unfold eM at h3
    obtain ⟨cs2, hc2, he⟩ : ∃ cs2, GR d (w + 100) true 9 cs2 ∧ (if q == 0 then (eCs cs).reverse else eCs cs) = eCs cs2 := by
      by_cases z : q = 0
      · exact ⟨cs.reverse, hc.rev, by rw [if_pos (by simpa using z)]; exact eCs_rev cs⟩
      · exact ⟨cs, hc.same, by rw [if_neg (by simpa using z)]⟩
    refine ⟨.plu x f cs2 m, S3, ?_, hS3, ?_, ?_, ?_, ?_, rfl, fun ins => ?_⟩
    · rw [eN, ← he]
      by_cases z : q = 0
      · subst z
        simp [B_1005, f2, hq, h2, e2, h2', e3, sb, h3]
      · have z2 : (q == 0) = false := by simpa using z
        simp [B_1005, f2, hq, z, z2, h2, e2, h2', e3, sb, h3]
    · rw [gN]; exact ⟨hc2.g, gm.g⟩
    · rw [nOk, nx.1, fo.1, hc2.ok, gm.ok]; rfl
    · have := hc2.h; have := gm.h; rw [nH]; omega
    · have := hc2.w; have := gm.w; have := nx.2; have := fo.2; rw [nW]; omega
    · rw [wfN]
      refine ⟨hxn, ?_, hc2.ks, hc2.wf, gm.wf⟩
      simp only [List.mem_cons, List.not_mem_nil, or_false] at hf2 ⊢
      rcases hf2 with h | h | h | h <;> simp [h]
  | _ => exact lp.elim

/-! ### a message that is drawn -/
structure GJ (d w : Nat) (ins : Bool) (j : Nat) (m : List Nd) : Prop where
  wf : wfL ins m
  g : gL m
  ok : lOk m = true
  h : lH m ≤ d
  w : lW m ≤ j * w
  l : m.length ≤ j
theorem GJ.nil (d w : Nat) (ins : Bool) : GJ d w ins 0 [] := ⟨by rw [wfL]; trivial, by rw [gL]; trivial, by rw [lOk], by rw [lH]; omega, by rw [lW]; omega, Nat.le_refl _⟩
theorem GJ.more {d w j : Nat} {ins : Bool} {m : List Nd} (h : GJ d w ins j m) : GJ d w ins (j + 1) m := ⟨h.wf, h.g, h.ok, h.h, by have := h.w; rw [Nat.succ_mul]; omega, by have := h.l; omega⟩
theorem GJ.snoc {d w j : Nat} {ins : Bool} {m : List Nd} {n : Nd} (h : GJ d w ins j m) (hwf : wfN ins n) (hg : gN n) (ho : nOk n = true) (hh : nH n ≤ d) (hw : nW n ≤ w) (hl : lastT m = true → isT n = false) : GJ d w ins (j + 1) (m ++ [n]) where
  wf := wfL_snoc h.wf hwf
  g := gL_snoc h.g hg hl
  ok := by rw [lOk_app, h.ok, lOk, lOk, ho]; rfl
  h := by have := h.h; rw [lH_app, lH, lH]; omega
  w := by have := h.w; rw [lW_app, lW_one, Nat.succ_mul]; omega
  l := by have := h.l; rw [List.length_append]; show m.length + 1 ≤ _; omega
theorem last_cond (m : List Nd) : (lastT m = false ∧ (m = [] ∨ ∃ a l, m = a ++ [l] ∧ isT l = false)) ∨ (lastT m = true ∧ ∃ a l, m = a ++ [l] ∧ isT l = true) := by
  rcases List.eq_nil_or_concat m with rfl | ⟨a, l, rfl⟩
  · exact .inl ⟨rfl, .inl rfl⟩
  · rw [List.concat_eq_append, lastT_snoc]
    cases h : isT l with
    | false => exact .inl ⟨rfl, .inr ⟨a, l, rfl, h⟩⟩
    | true => exact .inr ⟨rfl, a, l, rfl, h⟩
def msgG (d : Nat) (ins : Bool) (m : List Nd) : List Sl := [.val (.ptr 0), .val (.int (d : Int)), .val (.bl ins), .own (.lst (eL m)), .non, .non]
theorem msg_step (k d w v j : Nat) (hv : 140 ≤ v) (ins : Bool) (hM : ∀ d', d = d' + 1 → MkM (run (k + 1)) d' w ∧ 10 * (w + 110) ≤ v) (m : List Nd) (S : List D) (t : D) (hS : Bx S) (hj : j ≤ 3) (h : GJ d v ins j m) :
    WT (L_1006_1 (run (k + 2)) [.val (.ptr 0), .val (.int (d : Int)), .val (.bl ins), .own (.lst (eL m)), .val t, .non] S)
      (fun Γ2 S2 => ∃ m2, clr [4, 5] Γ2 = msgG d ins m2 ∧ Bx S2 ∧ GJ d v ins (j + 1) m2) (fun _ _ => False) (fun _ _ => False) := by
  obtain ⟨q, S1, h1, hS1, q0, q8⟩ := run_draw (k + 1) 8 (by decide) S hS
  replace h1 : run (k + 2) 1002 [.ptr 0, .int 8] S = .ok (.int q) S1 := h1
  have hl : m.length < sizeLine := Nat.lt_of_le_of_lt (show m.length ≤ 5000000 by have := h.l; omega) (by decide)
  have e1 : ∀ n, eL m ++ [eN n] = eL (m ++ [n]) := fun n => by rw [eL_app, eL_one]
  rw [e_L_1006_1]
  -- a text
  have txt : (q < 3 ∨ (d = 0 ∧ 4 < q)) → WT (sIf (tOrD (tB (eOp cEq (eUn dLen (oV 3)) (eC (.int 0)))) (tB (eOp cNe (eOp dIdx (eOp dIdx (oV 3) (eUn dNeg (eC (.int 1)))) (eC (.int 0))) (eC (.str "text"))))) (sAppO 3 (eTup (aCons (eC (.str "text")) (aCons (eCall (run (k + 2) 1003) (aCons (eV 0) aNil)) aNil)))) sNext [.val (.ptr 0), .val (.int (d : Int)), .val (.bl ins), .own (.lst (eL m)), .val t, .val (.int q)] S1)
      (fun Γ2 S2 => ∃ m2, clr [4, 5] Γ2 = msgG d ins m2 ∧ Bx S2 ∧ GJ d v ins (j + 1) m2) (fun _ _ => False) (fun _ _ => False) := fun _ => by
    obtain ⟨x, S2, h2, hS2, x1, x2, x3, x4⟩ := run_string k S1 hS1
    have ex := e1 (.text x)
    have en : eN (.text x) = .tup [.str "text", .str x] := by rw [eN]
    rw [en] at ex
    have gx : lastT m = false → GJ d v ins (j + 1) (m ++ [.text x]) := fun hlt => h.snoc (by rw [wfN]; exact x4) (by rw [gN]; exact x3) (by rw [nOk]; exact x1) (by rw [nH]; omega) (by rw [nW]; omega) fun z => by rw [hlt] at z; cases z
    rcases last_cond m with ⟨hlt, hm | ⟨a, l, hm, tl⟩⟩ | ⟨hlt, a, l, hm, tl⟩
    · have g2 := gx hlt
      subst hm
      simp at ex
      simp [h2, WT, s0, ex]
      exact ⟨_, rfl, hS2, g2⟩
    · have g2 := gx hlt
      have la : atI (eL a ++ [eN l]) (-1) = some (eN l) := by rw [atI_neg1, List.getLast?_concat]
      have tn := tag_text l
      have em : eL m = eL a ++ [eN l] := by rw [hm, eL_app, eL_one]
      have ml : m.length = a.length + 1 := by rw [hm, List.length_append]; rfl
      rw [em] at ex
      have hl3 : a.length + 1 < sizeLine := by rw [← ml]; exact hl
      have nz : ¬ ((a.length : Int) + 1 = 0) := by omega
      have nz2 : (((a.length : Int) + 1) == 0) = false := by simpa using nz
      rw [em]
      simp [h2, WT, la, tn, tl, hl3, nz, nz2] at ex ⊢
      rw [ex]
      exact ⟨_, rfl, hS2, g2⟩
    · have la : atI (eL a ++ [eN l]) (-1) = some (eN l) := by rw [atI_neg1, List.getLast?_concat]
      have tn := tag_text l
      have em : eL m = eL a ++ [eN l] := by rw [hm, eL_app, eL_one]
      have nz : ¬ ((a.length : Int) + 1 = 0) := by omega
      have nz2 : (((a.length : Int) + 1) == 0) = false := by simpa using nz
      have g2 := h.more
      rw [hm] at g2
      rw [em]
      simp [WT, la, tn, tl, nz, nz2]
      exact ⟨a ++ [l], by unfold msgG; rw [eL_app, eL_one], hS1, g2⟩
  by_cases c1 : q < 3
  · have t1 := txt (.inl c1)
    simp only [x_sSeq, x_sSet, x_eCall, x_aCons, x_aNil, x_eV, x_eC] 
    simp [h1, c1] at t1 ⊢
    exact t1
  · by_cases c2 : d = 0 ∧ 4 < q
    · have t1 := txt (.inr c2)
      obtain ⟨c3, c4⟩ := c2
      subst c3
      simp [h1, c1, c4] at t1 ⊢
      exact t1
    · by_cases c3 : q = 3
      · subst c3
        obtain ⟨r, S2, h2, hS2, r0, r1⟩ := run_draw (k + 1) 4 (by decide) S1 hS1
        replace h2 : run (k + 2) 1002 [.ptr 0, .int 4] S1 = .ok (.int r) S2 := h2
        obtain ⟨x, hx, e⟩ := pickS (xs := ["n", "w", "who", "count"]) r0 (by exact r1)
        have e2 : atI [D.str "n", .str "w", .str "who", .str "count"] r = some (.str x) := e
        have hxn : x ∈ nms := by
          simp only [nms, List.mem_cons, List.not_mem_nil, or_false] at hx ⊢
          rcases hx with h | h | h | h <;> simp [h]
        have nx := names_ok x hxn
        have ex := e1 (.shw x)
        have en : eN (.shw x) = .tup [.str "show", .str x] := by rw [eN]
        rw [en] at ex
        simp [h1, h2, e2, hl, ex, WT]
        exact ⟨_, rfl, hS2, h.snoc (by rw [wfN]; exact hxn) (by rw [gN]; trivial) (by rw [nOk]; exact nx.1) (by rw [nH]; omega) (by have := nx.2; rw [nW]; omega) fun _ => rfl⟩
      · have c3b : (q == 3) = false := by simpa using c3
        by_cases c4 : q = 4
        · subst c4
          have ex := e1 .num
          have en : eN .num = .tup [.str "number"] := by rw [eN]
          rw [en] at ex
          cases ins with
          | true =>
            simp [h1, hl, ex, WT]
            exact ⟨_, rfl, hS1, h.snoc (by rw [wfN]) (by rw [gN]; trivial) (by rw [nOk]) (by rw [nH]; omega) (by rw [nW]; omega) fun _ => rfl⟩
          | false =>
            simp [h1, WT]
            exact ⟨m, rfl, hS1, h.more⟩
        · have c4b : (q == 4) = false := by simpa using c4
          have hd : d ≠ 0 := fun z => c2 ⟨z, by omega⟩
          obtain ⟨d', rfl⟩ : ∃ d', d = d' + 1 := ⟨d - 1, by omega⟩
          have dz : ¬ ((d' : Int) + 1 = 0) := by omega
          have dz2 : (((d' : Int) + 1) == 0) = false := by simpa using dz
          by_cases c5 : q < 7
          · obtain ⟨nd, S2, h2, hS2, n1, n2, n3, n4, n5, n6⟩ := run_plural k d' w (hM d' rfl).1 S1 hS1
            have ex := e1 nd
            simp at h2
            simp [h1, c1, c3, c3b, c4, c4b, dz, dz2, c5, h2, hl, ex, WT]
            exact ⟨_, rfl, hS2, h.snoc (n6 ins) n1 n2 n3 (by have := (hM d' rfl).2; omega) fun _ => n5⟩
          · obtain ⟨nd, S2, h2, hS2, n1, n2, n3, n4, n5, n6⟩ := run_select k d' w ins (hM d' rfl).1 S1 hS1
            have ex := e1 nd
            simp at h2
            simp [h1, c1, c3, c3b, c4, c4b, dz, dz2, c5, h2, hl, ex, WT]
            exact ⟨_, rfl, hS2, h.snoc n6 n1 n2 n3 (by have := (hM d' rfl).2; omega) fun _ => n5⟩

theorem msg_run (k d w v : Nat) (hv : 140 ≤ v) (ins : Bool) (hM : ∀ d', d = d' + 1 → MkM (run (k + 1)) d' w ∧ 10 * (w + 110) ≤ v) (S : List D) (hS : Bx S) : ∃ (m : List Nd) (S' : List D), run (k + 3) 1006 [.ptr 0, .int d, .bl ins] S = .ok (eM m) S' ∧ Bx S' ∧ GM d (3 * v) ins m := by
  rw [run_1006]
  obtain ⟨q, S1, h1, hS1, q0, q4⟩ := run_draw (k + 1) 4 (by decide) S hS
  replace h1 : run (k + 2) 1002 [.ptr 0, .int 4] S = .ok (.int q) S1 := h1
  have iq : inR q = true := inR_of (by omega)
  have lp := forD_wp (p := .nm 4) (kl := [4, 5]) (β := L_1006_1 (run (k + 2))) (R := fun _ _ => False) (N := fun Γ S2 => ∃ m2, Γ = msgG d ins m2 ∧ Bx S2 ∧ GJ d v ins q.toNat m2)
    (fun j Γ S2 => ∃ m2, Γ = msgG d ins m2 ∧ Bx S2 ∧ GJ d v ins j m2) (rangeD 0 q.toNat) 0 (msgG d ins []) S1 ⟨[], rfl, hS1, GJ.nil _ _ _⟩
    (fun j x Γ S2 hx ⟨m2, hΓ, hS2, hg⟩ => by
      subst hΓ
      rw [Nat.zero_add] at hg
      have hj : j < (rangeD 0 q.toNat).length := (List.getElem?_eq_some_iff.mp hx).1
      rw [rangeD_len] at hj
      refine ⟨_, x_bnm, ?_⟩
      rw [Nat.zero_add]
      exact (msg_step k d w v j hv ins hM m2 S2 x hS2 (by omega) hg).mono (fun _ _ h => h) (fun _ _ h => h) (fun _ _ h => h.elim))
    (fun Γ S2 h => by rw [rangeD_len, Nat.zero_add] at h; exact h)
  revert lp
  generalize hf : forD (.nm 4) [4, 5] (L_1006_1 (run (k + 2))) (rangeD 0 q.toNat) (msgG d ins []) S1 = o
  intro lp
  unfold msgG at hf
  rw [eL_nil] at hf
  cases o with
  | next Γ S2 =>
    obtain ⟨m2, rfl, hS2, hg⟩ := lp
    refine ⟨m2, S2, ?_, hS2, hg.wf, hg.g, hg.ok, hg.h, ?_⟩
    · unfold msgG at hf
      simp [B_1006, h1, iq, hf, eM]
    · have := hg.w
      exact Nat.le_trans this (Nat.mul_le_mul_right _ (by omega))
  | _ => exact lp.elim
def wM : Nat → Nat
  | 0 => 3 * 140
  | d + 1 => 3 * (10 * (wM d + 110))
theorem mkM : ∀ (d n : Nat), 2 * d + 3 ≤ n → MkM (run n) d (wM d) := by
  intro d
  induction d with
  | zero =>
    intro n hn ins S hS
    obtain ⟨k, rfl⟩ : ∃ k, n = k + 3 := ⟨n - 3, by omega⟩
    exact msg_run k 0 0 140 (by omega) ins (fun d' e => by omega) S hS
  | succ d ih =>
    intro n hn ins S hS
    obtain ⟨k, rfl⟩ : ∃ k, n = k + 3 := ⟨n - 3, by omega⟩
    exact msg_run k (d + 1) (wM d) (10 * (wM d + 110)) (by omega) ins (fun d' e => by { have z : d' = d := (by omega); subst z; exact ⟨ih (k + 1) (by omega), Nat.le_refl _⟩ }) S hS
theorem wM2 : wM 2 = 480300 := by decide

end
section
open PySem L2 DL
/-! ### the messages that are drawn are such -/
theorem txts_sg : ∀ x ∈ txts, ∀ c ∈ x.cps.toList, sgnOk c = true := by
  have h : txts.all (fun x => x.cps.toList.all sgnOk) = true := by decide +kernel
  intro x hx c hc
  exact List.all_eq_true.mp (List.all_eq_true.mp h x hx) c hc
theorem nms_wd : ∀ x ∈ nms, WdOk x := by
  have h : nms.all wdB = true := by decide +kernel
  intro x hx
  exact wdB_ok (List.all_eq_true.mp h x hx)
theorem selKs_wd : ∀ x ∈ selKs, WdOk x ∧ x ≠ "other" := by
  have h : selKs.all (fun x => wdB x && decide (x ≠ "other")) = true := by decide +kernel
  intro x hx
  have := List.all_eq_true.mp h x hx
  simp only [Bool.and_eq_true, decide_eq_true_eq] at this
  exact ⟨wdB_ok this.1, this.2⟩
theorem catL_wd : ∀ x ∈ catL, WdOk x ∧ x ≠ "other" := by
  have h : catL.all (fun x => wdB x && decide (x ≠ "other")) = true := by decide +kernel
  intro x hx
  have := List.all_eq_true.mp h x hx
  simp only [Bool.and_eq_true, decide_eq_true_eq] at this
  exact ⟨wdB_ok this.1, this.2⟩
theorem pluKs_k : ∀ k ∈ pluKs, kOkP true k := by
  intro k hk
  unfold pluKs at hk
  simp only [List.mem_cons, List.not_mem_nil, or_false] at hk
  rcases hk with rfl | rfl | rfl | rfl | rfl | rfl | rfl | rfl | rfl
  · exact ⟨rfl, 0, rfl, by decide⟩
  · exact ⟨rfl, 1, rfl, by decide⟩
  · exact ⟨rfl, 2, rfl, by decide⟩
  · exact ⟨rfl, 12, rfl, by decide⟩
  all_goals (refine ⟨(catL_wd _ ?_).1, (catL_wd _ ?_).2, fun _ => ?_⟩ <;> (unfold catL; simp))
theorem pluKs_nd : pluKs.Nodup := by
  have h : decide (pluKs.Nodup) = true := by decide +kernel
  exact of_decide_eq_true h
theorem selKs_nd : (selKs.map Ky.s).Nodup := by
  have h : decide ((selKs.map Ky.s).Nodup) = true := by decide +kernel
  exact of_decide_eq_true h
mutual
theorem wf_vN : ∀ (nd : Nd) (ins : Bool), wfN ins nd → vN ins nd
  | .text x, ins, h => by rw [wfN] at h; rw [vN]; exact txts_sg x h
  | .shw n, ins, h => by rw [wfN] at h; rw [vN]; exact nms_wd n h
  | .num, ins, h => by rw [wfN] at h; rw [vN]; exact h
  | .sel n cs o, ins, h => by
    rw [wfN] at h; rw [vN]
    obtain ⟨h1, h2, h3, h4⟩ := h
    refine ⟨nms_wd n h1, fun c hc => ?_, h2.nodup selKs_nd, wf_vCs cs ins h3, wf_vL o ins h4⟩
    obtain ⟨x, hx, e⟩ := List.mem_map.mp (h2.subset (List.mem_map_of_mem (f := cKey) hc))
    rw [← e]
    exact ⟨(selKs_wd x hx).1, (selKs_wd x hx).2, fun z => by cases z⟩
  | .plu n f cs o, ins, h => by
    rw [wfN] at h; rw [vN]
    obtain ⟨h1, h2, ⟨ks, k1, k2⟩, h3, h4⟩ := h
    have sub : ∀ c ∈ cs, cKey c ∈ pluKs := fun c hc => by
      have m := List.mem_map_of_mem (f := cKey) hc
      rcases k2 with k2 | k2
      · rw [k2] at m; exact k1.subset m
      · rw [k2] at m; exact k1.subset (List.mem_reverse.mp m)
    refine ⟨nms_wd n h1, ?_, fun c hc => pluKs_k _ (sub c hc), ?_, wf_vCs cs true h3, wf_vL o true h4⟩
    · simp only [List.mem_cons, List.not_mem_nil, or_false] at h2
      rcases h2 with rfl | rfl | rfl
      · exact ⟨0, rfl, by decide⟩
      · exact ⟨1, rfl, by decide⟩
      · exact ⟨2, rfl, by decide⟩
    · have nd := k1.nodup pluKs_nd
      rcases k2 with k2 | k2
      · rw [k2]; exact nd
      · rw [k2]; exact (List.Perm.nodup_iff (List.reverse_perm ks)).mpr nd
theorem wf_vL : ∀ (m : List Nd) (ins : Bool), wfL ins m → vL ins m
  | [], ins, h => by rw [vL]; trivial
  | n :: r, ins, h => by rw [wfL] at h; rw [vL]; exact ⟨wf_vN n ins h.1, wf_vL r ins h.2⟩
theorem wf_vCs : ∀ (cs : List Cs) (ins : Bool), wfCs ins cs → vCs ins cs
  | [], ins, h => by rw [vCs]; trivial
  | .mk k m :: r, ins, h => by rw [wfCs, wfC] at h; rw [vCs, vC]; exact ⟨wf_vL m ins h.1, wf_vCs r ins h.2⟩
end

end
section
open PySem L2 DL
/-! ### an error, or an end, behind what is read -/
theorem nodes_tok {N : List Nat → PR Nd} {k : Nat} : ∀ (f f' : Nat) (acc acc' : List Nd) (r : List Nat), f ≤ f' → pNodes N f acc r = .tok k → pNodes N f' acc' r = .tok k
  | 0, _, _, _, _, _, h => by rw [pNodes] at h; cases h
  | f + 1, f', acc, acc', r, hf, h => by
    obtain ⟨f', rfl⟩ : ∃ j, f' = j + 1 := ⟨f' - 1, by omega⟩
    rw [pNodes] at h ⊢
    by_cases c : r = [] ∨ r.head? = some 125
    · rw [if_pos c] at h; cases h
    · rw [if_neg c] at h ⊢
      cases y : N r with
      | ok nd z => rw [y, PR.bind_ok] at h; rw [PR.bind_ok]; exact nodes_tok f f' _ _ z (by omega) h
      | tok j => rw [y] at h; exact h
      | fin => rw [y] at h; exact h
      | out => rw [y] at h; exact h
theorem nodes_fin {N : List Nat → PR Nd} : ∀ (f f' : Nat) (acc acc' : List Nd) (r : List Nat), f ≤ f' → pNodes N f acc r = .fin → pNodes N f' acc' r = .fin
  | 0, _, _, _, _, _, h => by rw [pNodes] at h; cases h
  | f + 1, f', acc, acc', r, hf, h => by
    obtain ⟨f', rfl⟩ : ∃ j, f' = j + 1 := ⟨f' - 1, by omega⟩
    rw [pNodes] at h ⊢
    by_cases c : r = [] ∨ r.head? = some 125
    · rw [if_pos c] at h; cases h
    · rw [if_neg c] at h ⊢
      cases y : N r with
      | ok nd z => rw [y, PR.bind_ok] at h; rw [PR.bind_ok]; exact nodes_fin f f' _ _ z (by omega) h
      | tok j => rw [y] at h; exact h
      | fin => rfl
      | out => rw [y] at h; exact h
theorem nodes_ok {N : List Nat → PR Nd} : ∀ (f f' : Nat) (acc acc' m : List Nd) (r z : List Nat), f ≤ f' → pNodes N f acc r = .ok (acc ++ m) z → pNodes N f' acc' r = .ok (acc' ++ m) z
  | 0, _, _, _, _, _, _, _, h => by rw [pNodes] at h; cases h
  | f + 1, f', acc, acc', m, r, z, hf, h => by
    obtain ⟨f', rfl⟩ : ∃ j, f' = j + 1 := ⟨f' - 1, by omega⟩
    rw [pNodes] at h ⊢
    by_cases c : r = [] ∨ r.head? = some 125
    · rw [if_pos c] at h ⊢
      injection h with h1 h2
      have : m = [] := by
        have := congrArg List.length h1
        rw [List.length_append] at this
        exact List.eq_nil_of_length_eq_zero (by omega)
      rw [this, List.append_nil, h2]
    · rw [if_neg c] at h ⊢
      cases y : N r with
      | ok nd x =>
        rw [y, PR.bind_ok] at h; rw [PR.bind_ok]
        have pre : ∃ m', acc ++ m = (acc ++ [nd]) ++ m' := by
          have key : ∀ (f : Nat) (a : List Nd) (r z : List Nat) (o : List Nd), pNodes N f a r = .ok o z → ∃ m', o = a ++ m' := fun f => by
            induction f with
            | zero => intro a r z o h; rw [pNodes] at h; cases h
            | succ f ih =>
              intro a r z o h
              rw [pNodes] at h
              by_cases c : r = [] ∨ r.head? = some 125
              · rw [if_pos c] at h; injection h with h1 h2; exact ⟨[], by rw [List.append_nil, h1]⟩
              · rw [if_neg c] at h
                cases y : N r with
                | ok nd x =>
                  rw [y, PR.bind_ok] at h
                  obtain ⟨m', e⟩ := ih _ _ _ _ h
                  exact ⟨nd :: m', by rw [e, List.append_assoc]; rfl⟩
                | tok j => rw [y] at h; cases h
                | fin => rw [y] at h; cases h
                | out => rw [y] at h; cases h
          exact key f (acc ++ [nd]) x z _ h
        obtain ⟨m', e⟩ := pre
        rw [e] at h
        have em : m = nd :: m' := by rw [List.append_assoc] at e; exact List.append_cancel_left e
        rw [nodes_ok f f' (acc ++ [nd]) (acc' ++ [nd]) m' x z (by omega) h, em, List.append_assoc]; rfl
      | tok j => rw [y] at h; cases h
      | fin => rw [y] at h; cases h
      | out => rw [y] at h; cases h
section
variable {n : Nat} {m : List Nd} {w r : List Nat}
theorem ahead_tok (hv : vL false m) (hn : lH m ≤ n) (hw : WrL m w) {k : Nat} (h : pMsg (n + 1) false r = .tok k) : pMsg (n + 1) false (w ++ r) = .tok k := by
  have R := reads_L m false n w hv hn hw
  obtain ⟨j, hj⟩ : ∃ j, (w ++ r).length + 1 = j + (cutL m).length ∧ r.length + 1 ≤ j := ⟨(w ++ r).length + 1 - (cutL m).length, by rw [List.length_append]; have := R.1; omega⟩
  show pNodes (pNode false (pMsg n)) ((w ++ r).length + 1) [] (w ++ r) = _
  rw [hj.1, R.2]
  exact nodes_tok _ _ _ _ _ hj.2 h
theorem ahead_fin (hv : vL false m) (hn : lH m ≤ n) (hw : WrL m w) (h : pMsg (n + 1) false r = .fin) : pMsg (n + 1) false (w ++ r) = .fin := by
  have R := reads_L m false n w hv hn hw
  obtain ⟨j, hj⟩ : ∃ j, (w ++ r).length + 1 = j + (cutL m).length ∧ r.length + 1 ≤ j := ⟨(w ++ r).length + 1 - (cutL m).length, by rw [List.length_append]; have := R.1; omega⟩
  show pNodes (pNode false (pMsg n)) ((w ++ r).length + 1) [] (w ++ r) = _
  rw [hj.1, R.2]
  exact nodes_fin _ _ _ _ _ hj.2 h
theorem ahead_ok (hv : vL false m) (hn : lH m ≤ n) (hw : WrL m w) {m2 : List Nd} {z : List Nat} (h : pMsg (n + 1) false r = .ok m2 z) : pMsg (n + 1) false (w ++ r) = .ok (cutL m ++ m2) z := by
  have R := reads_L m false n w hv hn hw
  obtain ⟨j, hj⟩ : ∃ j, (w ++ r).length + 1 = j + (cutL m).length ∧ r.length + 1 ≤ j := ⟨(w ++ r).length + 1 - (cutL m).length, by rw [List.length_append]; have := R.1; omega⟩
  show pNodes (pNode false (pMsg n)) ((w ++ r).length + 1) [] (w ++ r) = _
  rw [hj.1, R.2]
  exact nodes_ok _ _ [] _ m2 _ _ hj.2 (by rw [List.nil_append]; exact h)
end

end
section
open PySem L2 DL
/-! ### parse_message where the reading stops -/
theorem parse_tok {n k : Nat} {t : Str} (A : List D) (hl : t.length < 900000) (h : pMsg n false t.cps.toList = .tok k ∨ ∃ m2 z, z ≠ [] ∧ z.length = k ∧ pMsg n false t.cps.toList = .ok m2 z) :
    ∃ p b, run (4 * n + 7) 70 [.str t] A = .exc (tokX (t.length - k)) (A ++ [rd t p b]) := by
  have P := w_parse n t A hl (fun m S q => by
    rcases h with h | ⟨m2, z, hz, _, h⟩
    · rw [h] at q; cases q
    · rw [h] at q; injection q with _ q; exact absurd q hz)
  have e : pParse n t.cps.toList = .tok k := by
    unfold pParse
    rcases h with h | ⟨m2, z, hz, zl, h⟩
    · rw [h]; rfl
    · rw [h, PR.bind_ok, if_neg hz, zl]
  rw [e] at P
  exact P
theorem parse_fin {n : Nat} {t : Str} (A : List D) (hl : t.length < 900000) (h : pMsg n false t.cps.toList = .fin) :
    ∃ p b, run (4 * n + 7) 70 [.str t] A = .exc finX (A ++ [rd t p b]) := by
  have P := w_parse n t A hl (fun m S q => by rw [h] at q; cases q)
  have e : pParse n t.cps.toList = .fin := by
    unfold pParse
    rw [h]; rfl
  rw [e] at P
  exact P

end
section
open PySem L2 DL
/-! ### beginnings of notations -/
def brD (c : Nat) : Int := (if c = 123 then 1 else 0) - (if c = 125 then 1 else 0)
/-- how many braces are open, and how many signs an escape that is not whole has -/
def scan : List Nat → Int → Int × Option Nat
  | [], d => (d, none)
  | c :: r, d => if c = 39 then (match r with
      | [] => (d, some 1)
      | a :: r2 => if a = 39 then scan r2 d else match r2 with
        | [] => (d, some 2)
        | _ :: r3 => scan r3 d) else scan r (d + brD c)
def Neu (l : List Nat) : Prop := ∀ c ∈ l, c ≠ 39 ∧ c ≠ 123 ∧ c ≠ 125
theorem scan_c {c : Nat} {r : List Nat} {d : Int} (h : c ≠ 39) : scan (c :: r) d = scan r (d + brD c) := by
  rw [scan.eq_def]
  simp only
  rw [if_neg h]
theorem scan_q1 {d : Int} : scan [39] d = (d, some 1) := by
  rw [scan.eq_def]
  simp only
  rw [if_pos trivial]
theorem scan_q2 {r : List Nat} {d : Int} : scan (39 :: 39 :: r) d = scan r d := by
  rw [scan.eq_def]
  simp only
  rw [if_pos trivial, if_pos trivial]
theorem scan_q3 {a : Nat} {d : Int} (h : a ≠ 39) : scan [39, a] d = (d, some 2) := by
  rw [scan.eq_def]
  simp only
  rw [if_pos trivial, if_neg h]
theorem scan_q4 {a b : Nat} {r : List Nat} {d : Int} (h : a ≠ 39) : scan (39 :: a :: b :: r) d = scan r d := by
  rw [scan.eq_def]
  simp only
  rw [if_pos trivial, if_neg h]
theorem scan_neu {l r : List Nat} {d : Int} (h : Neu l) : scan (l ++ r) d = scan r d := by
  induction l with
  | nil => rfl
  | cons c l ih =>
    have hc := h c List.mem_cons_self
    have : brD c = 0 := by unfold brD; rw [if_neg hc.2.1, if_neg hc.2.2]; rfl
    rw [List.cons_append, scan_c hc.1, this, Int.add_zero]
    exact ih fun x hx => h x (List.mem_cons_of_mem _ hx)
theorem scan_neu' {l : List Nat} {d : Int} (h : Neu l) : scan l d = (d, none) := by
  have := scan_neu (r := []) (d := d) h
  rw [List.append_nil] at this
  rw [this, scan.eq_def]
theorem scan_ob {r : List Nat} {d : Int} : scan (123 :: r) d = scan r (d + 1) := by rw [scan_c (by decide)]; rfl
theorem scan_cb {r : List Nat} {d : Int} : scan (125 :: r) d = scan r (d - 1) := by
  rw [scan_c (by decide)]
  have : d + brD 125 = d - 1 := by show d + (0 - 1) = _; omega
  rw [this]
theorem scan_esc {c : Nat} {r : List Nat} {d : Int} : scan ((escC c).cps.toList ++ r) d = if c = 123 ∨ c = 125 ∨ c = 35 ∨ c = 39 then scan r d else scan (c :: r) d := by
  rw [escC_l]
  by_cases a : c = 39
  · rw [if_pos a, if_pos (by omega)]
    exact scan_q2
  · rw [if_neg a]
    by_cases m : inW ES c = true
    · rw [if_pos m, if_pos (by rw [inEs] at m; exact of_decide_eq_true m)]
      exact scan_q4 a
    · rw [if_neg m, if_neg (by rw [inEs] at m; exact fun z => m (decide_eq_true z))]; rfl
theorem scan_sign {c : Nat} {r : List Nat} {d : Int} : scan ((escC c).cps.toList ++ r) d = scan r d := by
  rw [scan_esc]
  split
  · rfl
  · rename_i h
    have : brD c = 0 := by unfold brD; rw [if_neg (by omega), if_neg (by omega)]; rfl
    rw [scan_c (by omega), this, Int.add_zero]
def ScanOk (w : List Nat) : Prop := ∀ r d, scan (w ++ r) d = scan r d
theorem ScanOk.nil : ScanOk [] := fun _ _ => rfl
theorem ScanOk.app {a b : List Nat} (h : ScanOk a) (k : ScanOk b) : ScanOk (a ++ b) := fun r d => by rw [List.append_assoc, h, k]
theorem ScanOk.neu {a : List Nat} (h : Neu a) : ScanOk a := fun r d => scan_neu h
theorem scan_text (l : List Nat) : ScanOk (escT l) := by
  induction l with
  | nil => exact ScanOk.nil
  | cons c r ih => rw [escT]; exact ScanOk.app (fun r d => scan_sign) ih
theorem ScanOk.br {a : List Nat} (h : ScanOk a) : ScanOk (123 :: (a ++ [125])) := fun r d => by
  rw [List.cons_append, List.append_assoc, scan_ob, h]
  show scan (125 :: r) (d + 1) = _
  rw [scan_cb]
  congr 1
  omega
theorem neu_lt {l : List Nat} (h : ∀ c ∈ l, inW LT c = true) : Neu l := fun c hc => by
  have := h c hc
  rw [inLt] at this
  have := of_decide_eq_true this
  omega
theorem neu_fg {l : List Nat} (h : ∀ c ∈ l, inW FG c = true) : Neu l := fun c hc => by
  have := h c hc
  rw [inFg] at this
  have := of_decide_eq_true this
  omega
theorem neu_app {a b : List Nat} (h : Neu a) (k : Neu b) : Neu (a ++ b) := fun c hc => by
  rcases List.mem_append.mp hc with hc | hc
  · exact h c hc
  · exact k c hc
theorem neu_cons {c : Nat} {a : List Nat} (h : c ≠ 39 ∧ c ≠ 123 ∧ c ≠ 125) (k : Neu a) : Neu (c :: a) := fun x hx => by
  rcases List.mem_cons.mp hx with rfl | hx
  · exact h
  · exact k x hx
theorem neu_nil : Neu [] := fun c hc => by cases hc
theorem neu_pre {a b : List Nat} (h : a <+: b) (k : Neu b) : Neu a := fun c hc => k c (h.subset hc)
theorem nt_neu {i : Nat} (h : i ≤ 999) : Neu (nt i).cps.toList := neu_fg (nt_list h).1
theorem OF_neu : Neu OF.cps.toList := by
  have e : OF.cps.toList = [111, 102, 102, 115, 101, 116, 58] := by decide +kernel
  rw [e]
  intro c hc
  simp only [List.mem_cons, List.not_mem_nil, or_false] at hc
  omega
theorem off_neu {f : Int} (h : ∃ i : Nat, f = (i : Int) ∧ i ≤ 9) : Neu (offS f) := by
  obtain ⟨i, rfl, hi⟩ := h
  unfold offS
  split
  · exact neu_nil
  · exact neu_cons (by decide) (neu_app OF_neu (nt_neu (by omega)))
theorem kC_neu {k : Ky} {plu : Bool} (h : kOkP plu k) : Neu (kC k) := by
  cases k with
  | i n =>
    obtain ⟨_, i, rfl, hi⟩ := h
    exact neu_cons (by decide) (nt_neu (by omega))
  | s x => exact neu_lt h.1.lt
theorem kd_neu : Neu ("select" : Str).cps.toList ∧ Neu ("plural" : Str).cps.toList ∧ Neu ("other" : Str).cps.toList := ⟨neu_lt kind_wd.1.lt, neu_lt kind_wd.2.lt, neu_lt oth_wd.lt⟩
mutual
theorem scanN : ∀ (nd : Nd) (ins : Bool), vN ins nd → ScanOk (stN nd)
  | .text x, ins, h => by rw [stN]; exact scan_text _
  | .shw n, ins, h => by rw [vN] at h; rw [stN]; exact ScanOk.br (ScanOk.neu (neu_lt h.lt))
  | .num, ins, h => by rw [stN]; exact ScanOk.neu (neu_cons (by decide) neu_nil)
  | .sel n cs o, ins, h => by
    rw [vN] at h; rw [stN]
    have a := scanCs cs ins false h.2.2.2.1 h.2.1
    have b := scanL o ins h.2.2.2.2
    have e : 123 :: (n.cps.toList ++ (44 :: 32 :: (("select" : Str).cps.toList ++ (44 :: (stCs cs ++ othW [32] [32] [] (stL o)))))) = 123 :: (((n.cps.toList ++ (44 :: 32 :: (("select" : Str).cps.toList ++ [44]))) ++ (stCs cs ++ ((32 :: (("other" : Str).cps.toList ++ [32])) ++ (123 :: (stL o ++ [125]))))) ++ [125]) := by unfold othW; simp
    rw [e]
    exact ScanOk.br (ScanOk.app (ScanOk.neu (neu_app (neu_lt h.1.lt) (neu_cons (by decide) (neu_cons (by decide) (neu_app kd_neu.1 (neu_cons (by decide) neu_nil)))))) (ScanOk.app a (ScanOk.app (ScanOk.neu (neu_cons (by decide) (neu_app kd_neu.2.2 (neu_cons (by decide) neu_nil)))) (ScanOk.br b))))
  | .plu n f cs o, ins, h => by
    rw [vN] at h; rw [stN]
    have a := scanCs cs true true h.2.2.2.2.1 h.2.2.1
    have b := scanL o true h.2.2.2.2.2
    have e : 123 :: (n.cps.toList ++ (44 :: 32 :: (("plural" : Str).cps.toList ++ (44 :: (offS f ++ (stCs cs ++ othW [32] [32] [] (stL o))))))) = 123 :: (((n.cps.toList ++ (44 :: 32 :: (("plural" : Str).cps.toList ++ (44 :: offS f)))) ++ (stCs cs ++ ((32 :: (("other" : Str).cps.toList ++ [32])) ++ (123 :: (stL o ++ [125]))))) ++ [125]) := by unfold othW; simp
    rw [e]
    exact ScanOk.br (ScanOk.app (ScanOk.neu (neu_app (neu_lt h.1.lt) (neu_cons (by decide) (neu_cons (by decide) (neu_app kd_neu.2.1 (neu_cons (by decide) (off_neu h.2.1))))))) (ScanOk.app a (ScanOk.app (ScanOk.neu (neu_cons (by decide) (neu_app kd_neu.2.2 (neu_cons (by decide) neu_nil)))) (ScanOk.br b))))
theorem scanL : ∀ (m : List Nd) (ins : Bool), vL ins m → ScanOk (stL m)
  | [], ins, h => by rw [stL]; exact ScanOk.nil
  | n :: r, ins, h => by rw [vL] at h; rw [stL]; exact ScanOk.app (scanN n ins h.1) (scanL r ins h.2)
theorem scanCs : ∀ (cs : List Cs) (ins plu : Bool), vCs ins cs → (∀ c ∈ cs, kOkP plu (cKey c)) → ScanOk (stCs cs)
  | [], ins, plu, h, hk => by rw [stCs]; exact ScanOk.nil
  | .mk k m :: r, ins, plu, h, hk => by
    rw [vCs, vC] at h; rw [stCs, stC]
    have e : 32 :: (kC k ++ (32 :: 123 :: (stL m ++ [125]))) = (32 :: (kC k ++ [32])) ++ (123 :: (stL m ++ [125])) := by simp
    rw [e]
    exact ScanOk.app (ScanOk.app (ScanOk.neu (neu_cons (by decide) (neu_app (kC_neu (hk _ List.mem_cons_self)) (neu_cons (by decide) neu_nil)))) (ScanOk.br (scanL m ins h.1))) (scanCs r ins plu h.2 fun c hc => hk c (List.mem_cons_of_mem _ hc))
end

end
section
open PySem L2 DL
/-! ### what is read of a beginning -/
theorem pre_split {p a b : List Nat} (h : p <+: a ++ b) : p <+: a ∨ ∃ q, p = a ++ q ∧ q <+: b := by
  by_cases c : p.length ≤ a.length
  · exact .inl (List.prefix_of_prefix_length_le h (List.prefix_append a b) c)
  · obtain ⟨q, rfl⟩ := List.prefix_of_prefix_length_le (List.prefix_append a b) h (by omega)
    exact .inr ⟨q, rfl, List.prefix_append_right_inj a |>.mp h⟩
theorem pre_cons {p b : List Nat} {a : Nat} (h : p <+: a :: b) : p = [] ∨ ∃ q, p = a :: q ∧ q <+: b := by
  cases p with
  | nil => exact .inl rfl
  | cons c q =>
    rw [List.cons_prefix_cons] at h
    exact .inr ⟨q, by rw [h.1], h.2⟩
theorem pre_nil {p : List Nat} (h : p <+: []) : p = [] := List.prefix_nil.mp h
def Late {α : Type} (x : PR α) : Prop := x = .fin ∨ ∃ k, k ≤ 8 ∧ x = .tok k
/-- behind a beginning that is no whole choice -/
def CutC {α : Type} (p : List Nat) (x : PR α) : Prop := (∃ k, (∀ d, ∃ d', scan p d = (d', some k)) ∧ x = .tok k) ∨ (∃ e : Nat, (∀ d, scan p d = (d + e, none)) ∧ Late x)
/-- behind a beginning of a message -/
def CutM (N : List Nat → PR Nd) (F : List Nd) (p : List Nat) : Prop := ((∀ d, scan p d = (d, none)) ∧ ∃ ns, Reads N p ns ∧ ns <+: F) ∨
  (∃ k, (∀ d, ∃ d', scan p d = (d', some k)) ∧ ∀ f acc, p.length + 1 ≤ f → pNodes N f acc p = .tok k) ∨
  (∃ e : Nat, 0 < e ∧ (∀ d, scan p d = (d + e, none)) ∧ ∀ f acc, p.length + 1 ≤ f → Late (pNodes N f acc p))
theorem CutC.late {α : Type} {p : List Nat} {x : PR α} (h : Neu p) (l : Late x) : CutC p x := .inr ⟨0, fun d => by rw [scan_neu' h]; simp, l⟩
theorem Late.fin {α : Type} : Late (.fin : PR α) := .inl rfl
theorem Late.tok {α : Type} {k : Nat} (h : k ≤ 8) : Late (.tok k : PR α) := .inr ⟨k, h, rfl⟩
theorem late_bind {α β : Type} {x : PR α} {f : α → List Nat → PR β} (h : Late x) : Late (x.bind f) := by
  rcases h with rfl | ⟨k, hk, rfl⟩
  · exact Late.fin
  · exact Late.tok hk
theorem CutC.bind {α β : Type} {p : List Nat} {x : PR α} {f : α → List Nat → PR β} (h : CutC p x) : CutC p (x.bind f) := by
  rcases h with ⟨k, h1, rfl⟩ | ⟨e, h1, h2⟩
  · exact .inl ⟨k, h1, rfl⟩
  · exact .inr ⟨e, h1, late_bind h2⟩
/-- behind something that does not count -/
theorem CutC.ahead {α : Type} {a p : List Nat} {x : PR α} (h : ScanOk a) (k : CutC p x) : CutC (a ++ p) x := by
  rcases k with ⟨k, h1, h2⟩ | ⟨e, h1, h2⟩
  · exact .inl ⟨k, fun d => by rw [h]; exact h1 d, h2⟩
  · exact .inr ⟨e, fun d => by rw [h]; exact h1 d, h2⟩
theorem CutM.ahead {N : List Nat → PR Nd} {F : List Nd} {w p : List Nat} {ns : List Nd} (hs : ScanOk w) (hr : Reads N w ns) (h : CutM N F p) : CutM N (ns ++ F) (w ++ p) := by
  have step : ∀ f acc, (w ++ p).length + 1 ≤ f → ∃ g acc', p.length + 1 ≤ g ∧ pNodes N f acc (w ++ p) = pNodes N g acc' p := fun f acc hf => by
    obtain ⟨g, rfl⟩ : ∃ g, f = g + ns.length := ⟨f - ns.length, by rw [List.length_append] at hf; have := hr.1; omega⟩
    exact ⟨g, acc ++ ns, by rw [List.length_append] at hf; have := hr.1; omega, hr.2 g acc p⟩
  rcases h with ⟨h1, ns', h2, h3⟩ | ⟨k, h1, h2⟩ | ⟨e, h0, h1, h2⟩
  · exact .inl ⟨fun d => by rw [hs]; exact h1 d, _, hr.app h2, List.prefix_append_right_inj ns |>.mpr h3⟩
  · refine .inr (.inl ⟨k, fun d => by rw [hs]; exact h1 d, fun f acc hf => ?_⟩)
    obtain ⟨g, acc', hg, e⟩ := step f acc hf
    rw [e]; exact h2 g acc' hg
  · refine .inr (.inr ⟨e, h0, fun d => by rw [hs]; exact h1 d, fun f acc hf => ?_⟩)
    obtain ⟨g, acc', hg, e⟩ := step f acc hf
    rw [e]; exact h2 g acc' hg
theorem CutM.nil (N : List Nat → PR Nd) (F : List Nd) : CutM N F [] := .inl ⟨fun d => by rw [scan.eq_def], [], Reads.nil N, List.nil_prefix⟩
def CutX (N : List Nat → PR Nd) (p : List Nat) : Prop := ∃ F, CutM N F p
/-- a beginning of a choice within a message -/
theorem CutM.brace {N : List Nat → PR Nd} {F : List Nd} {q : List Nat} (h : CutC q (N (123 :: q))) : CutM N F (123 :: q) := by
  have step : ∀ f acc, (123 :: q).length + 1 ≤ f → ∃ g : Nat, pNodes N f acc (123 :: q) = (N (123 :: q)).bind fun nd z => pNodes N g (acc ++ [nd]) z := fun f acc hf => by
    obtain ⟨g, rfl⟩ : ∃ g, f = g + 1 := ⟨f - 1, by omega⟩
    exact ⟨g, by rw [pNodes, if_neg (by simp)]⟩
  rcases h with ⟨k, h1, h2⟩ | ⟨e, h1, h2⟩
  · refine .inr (.inl ⟨k, fun d => by rw [scan_ob]; exact h1 _, fun f acc hf => ?_⟩)
    obtain ⟨g, e⟩ := step f acc hf
    rw [e, h2]; rfl
  · refine .inr (.inr ⟨e + 1, by omega, fun d => by rw [scan_ob, h1]; congr 1; omega, fun f acc hf => ?_⟩)
    obtain ⟨g, e⟩ := step f acc hf
    rw [e]; exact late_bind h2
theorem head_nil (f : Nat → Bool) : ∀ c, ([] : List Nat).head? = some c → f c = false := fun c hc => by cases hc
/-! signs -/
theorem cut_sign {ins : Bool} {M : Bool → List Nat → PR (List Nd)} {F : List Nd} {c : Nat} {p : List Nat} (hp : p <+: (escC c).cps.toList) (hne : p ≠ (escC c).cps.toList) : CutM (pNode ins M) F p := by
  rw [escC_l] at hp hne
  have tok : ∀ p : List Nat, p.length ≤ 2 → p.head? = some 39 → pEscs [123, 125, 35, 39] p = .tok p.length → ∀ f acc, p.length + 1 ≤ f → pNodes (pNode ins M) f acc p = .tok p.length := fun p hl hh he f acc hf => by
    obtain ⟨g, rfl⟩ : ∃ g, f = g + 1 := ⟨f - 1, by omega⟩
    cases p with
    | nil => cases hh
    | cons a q =>
      cases hh
      rw [pNodes, if_neg (by simp), pNode, if_neg (by decide), if_pos rfl, he]; rfl
  have q1 : pEscs [123, 125, 35, 39] [39] = .tok 1 := by
    simp only [pEscs, escC_l, inEs]
    simp [List.isPrefixOf]
  by_cases a : c = 39
  · rw [if_pos a] at hp hne
    rcases pre_cons hp with rfl | ⟨q, rfl, hq⟩
    · exact CutM.nil _ _
    · rcases pre_cons hq with rfl | ⟨q2, rfl, hq2⟩
      · exact .inr (.inl ⟨1, fun d => ⟨d, scan_q1⟩, tok [39] (by decide) rfl q1⟩)
      · rw [pre_nil hq2] at hne; exact absurd rfl hne
  · rw [if_neg a] at hp hne
    by_cases m : inW ES c = true
    · rw [if_pos m] at hp hne
      rcases pre_cons hp with rfl | ⟨q, rfl, hq⟩
      · exact CutM.nil _ _
      · rcases pre_cons hq with rfl | ⟨q2, rfl, hq2⟩
        · exact .inr (.inl ⟨1, fun d => ⟨d, scan_q1⟩, tok [39] (by decide) rfl q1⟩)
        · rcases pre_cons hq2 with rfl | ⟨q3, rfl, hq3⟩
          · have q2 : pEscs [123, 125, 35, 39] [39, c] = .tok 2 := by
              simp only [pEscs, escC_l, inEs]
              simp [List.isPrefixOf]
              intro z; exact absurd z.symm a
            exact .inr (.inl ⟨2, fun d => ⟨d, scan_q3 a⟩, tok [39, c] (by show 2 ≤ 2; decide) rfl q2⟩)
          · rw [pre_nil hq3] at hne; exact absurd rfl hne
    · rw [if_neg m] at hp hne
      rcases pre_cons hp with rfl | ⟨q, rfl, hq⟩
      · exact CutM.nil _ _
      · rw [pre_nil hq] at hne; exact absurd rfl hne
theorem cut_text {ins : Bool} {M : Bool → List Nat → PR (List Nd)} : ∀ (l p : List Nat), (∀ c ∈ l, sgnOk c = true) → p <+: escT l → CutM (pNode ins M) (cutT l) p
  | [], p, h, hp => by
    rw [escT] at hp
    rw [pre_nil hp]; exact CutM.nil _ _
  | c :: l, p, h, hp => by
    rw [escT] at hp
    have whole : ∀ q, q <+: escT l → CutM (pNode ins M) (cutT (c :: l)) ((escC c).cps.toList ++ q) := fun q hq =>
      CutM.ahead (fun r d => scan_sign) (Reads.one (fun r => escC_head r) (fun r => node_sign (h c List.mem_cons_self) r)) (cut_text l q (fun x hx => h x (List.mem_cons_of_mem _ hx)) hq)
    rcases pre_split hp with hp | ⟨q, rfl, hq⟩
    · by_cases e : p = (escC c).cps.toList
      · have := whole [] (List.nil_prefix)
        rw [List.append_nil, ← e] at this; exact this
      · exact cut_sign hp e
    · exact whole q hq
/-! words and numbers that are cut -/
theorem word_cut {x : List Nat} (h : ∀ c ∈ x, inW LT c = true) (l8 : x.length ≤ 8) : pWord x = if x = [] then .fin else .ok (mkS x, x.length) [] := by
  have sk : pSkip x = x := dw_stop fun c hc => by
    cases x with
    | nil => cases hc
    | cons a y => cases hc; exact lt_sp (h _ List.mem_cons_self)
  have t := tw_app (f := inW LT) (a := x) (r := []) h (head_nil _)
  have dd := dw_app (f := inW LT) (a := x) (r := []) h
  rw [List.append_nil] at t dd
  unfold pWord
  rw [sk, t, dd]
  by_cases e : x = []
  · rw [if_pos e, if_pos e, if_pos e]
  · rw [if_neg e, if_neg e, if_pos l8]; rfl
theorem nat_cut {m : Nat} {y : List Nat} (h : ∀ c ∈ y, inW FG c = true) (hl : y.length ≤ 3) : (∃ i, pNat m y = .ok i []) ∨ Late (pNat m y) := by
  have t := tw_app (f := inW FG) (a := y) (r := []) h (head_nil _)
  have dd := dw_app (f := inW FG) (a := y) (r := []) h
  rw [List.append_nil] at t dd
  unfold pNat
  rw [t, dd]
  by_cases e : y = []
  · rw [if_pos e, if_pos e]; exact .inr Late.fin
  · rw [if_neg e]
    split
    · exact .inl ⟨_, rfl⟩
    · exact .inr (Late.tok (by omega))
theorem skip32 (x : List Nat) : pSkip (32 :: x) = pSkip x := by
  unfold pSkip
  rw [List.dropWhile_cons, if_pos (by decide +kernel)]
/-- a key that is cut -/
theorem key_cut {plu : Bool} {k : Ky} {x : List Nat} (hk : kOkP plu k ∨ k = .s "other") (hx : x <+: kC k) : (∃ kb, kb.2 ≤ 8 ∧ pKey plu x = .ok kb []) ∨ Late (pKey plu x) := by
  have word : ∀ y : List Nat, (∀ c ∈ y, inW LT c = true) → y.length ≤ 8 → (∃ kb, kb.2 ≤ 8 ∧ pKey plu y = .ok kb []) ∨ Late (pKey plu y) := fun y hy h8 => by
    have sk : pSkip y = y := dw_stop fun c hc => by
      cases y with
      | nil => cases hc
      | cons a z => cases hc; exact lt_sp (hy _ List.mem_cons_self)
    unfold pKey
    rw [sk, if_neg (fun z => by
      cases y with
      | nil => cases z.2
      | cons a w =>
        have z2 : a = 61 := Option.some.inj z.2
        have := hy a List.mem_cons_self
        rw [z2, inLt] at this
        exact absurd this (by decide)), word_cut hy h8]
    split
    · exact .inr Late.fin
    · rw [PR.bind_ok]
      split
      · exact .inr (Late.tok h8)
      · exact .inl ⟨_, h8, rfl⟩
  cases k with
  | i n =>
    rcases hk with ⟨rfl, i, rfl, hi⟩ | hk
    · rw [kC, Int.toNat_natCast] at hx
      rcases pre_cons hx with rfl | ⟨y, rfl, hy⟩
      · exact word [] (fun c hc => by cases hc) (by decide)
      · obtain ⟨a, _, c, _, _⟩ := nt_list (i := i) (by omega)
        have yl : y.length ≤ 3 := Nat.le_trans hy.length_le c
        have sk : pSkip (61 :: y) = 61 :: y := dw_stop fun c hc => by cases hc; decide +kernel
        unfold pKey
        rw [sk, if_pos ⟨rfl, rfl⟩]
        show (∃ kb : Ky × Nat, kb.2 ≤ 8 ∧ (pNat 999 y).bind _ = _) ∨ Late ((pNat 999 y).bind _)
        rcases nat_cut (m := 999) (fun c hc => a c (hy.subset hc)) yl with ⟨v, hv⟩ | l
        · rw [hv]; exact .inl ⟨_, by show y.length + 1 ≤ 8; omega, rfl⟩
        · exact .inr (late_bind l)
    · cases hk
  | s z =>
    have wd : WdOk z := by
      rcases hk with hk | hk
      · exact hk.1
      · cases hk; exact oth_wd
    exact word x (fun c hc => wd.lt c (hx.subset hc)) (Nat.le_trans hx.length_le (by show z.cps.toList.length ≤ 8; rw [len_cps]; exact wd.l8))
theorem expect_nil (c : Nat) : pExpect c [] = .fin := rfl
/-- behind a key that is cut -/
theorem cases_cut {plu : Bool} {M : List Nat → PR (List Nd)} {f : Nat} {cs0 : List Cs} {p : List Nat} (h : (∃ kb, kb.2 ≤ 8 ∧ pKey plu p = .ok kb []) ∨ Late (pKey plu p)) : Late (pCases plu M (f + 1) cs0 p) := by
  rw [pCases]
  rcases h with ⟨kb, hb, e⟩ | l
  · rw [e, PR.bind_ok]
    split
    · exact Late.tok hb
    · rw [expect_nil]; exact Late.fin
  · exact late_bind l

end
section
open PySem L2 DL
/-! ### choices that are cut -/
/-- behind a message's opening brace -/
theorem msg_cut {n : Nat} {ins : Bool} {y : List Nat} (h : CutX (pNode ins (pMsg n)) y) {α : Type} (F : List Nd → List Nat → PR α) (hF : ∀ m, F m [] = .fin) : CutC (123 :: y) ((pMsg (n + 1) ins y).bind F) := by
  have e : pMsg (n + 1) ins y = pNodes (pNode ins (pMsg n)) (y.length + 1) [] y := rfl
  obtain ⟨F0, h⟩ := h
  rcases h with ⟨h1, ns, h2, _⟩ | ⟨k, h1, h2⟩ | ⟨e2, h0, h1, h2⟩
  · have m := h2.msg (r := []) (.inl rfl)
    rw [List.append_nil] at m
    refine .inr ⟨1, fun d => by rw [scan_ob, h1]; rfl, ?_⟩
    rw [e, m, PR.bind_ok, hF]; exact Late.fin
  · refine .inl ⟨k, fun d => by rw [scan_ob]; exact h1 _, ?_⟩
    rw [e, h2 _ _ (Nat.le_refl _)]; rfl
  · refine .inr ⟨e2 + 1, fun d => by rw [scan_ob, h1]; congr 1; omega, ?_⟩
    rw [e]; exact late_bind (h2 _ _ (Nat.le_refl _))
theorem neu_32 : Neu [32] := neu_cons (by decide) neu_nil
theorem key_at {plu : Bool} {k : Ky} {r : List Nat} (hk : kOkP plu k ∨ k = .s "other") : pKey plu (32 :: (kC k ++ 32 :: r)) = .ok (k, (kC k ++ 32 :: r).length) (32 :: r) := by
  rcases hk with hk | rfl
  · exact key_read (g := [32]) gap1_32.1 hk (head_gap1 (g := [32]) (r := r) gap1_32)
  · exact key_word (g := [32]) gap1_32.1 oth_wd (fun _ => .inr rfl) (fun c hc => (head_gap1 (g := [32]) (r := r) gap1_32 c hc).1)
/-- a case, or the other one, that is cut within its key, or within its message -/
theorem case_cut {n f : Nat} {ins plu : Bool} {cs0 : List Cs} {k : Ky} {w p : List Nat} (hk : kOkP plu k ∨ k = .s "other") (hn : k ∉ cs0.map cKey) (hM : ∀ y, y <+: w → CutX (pNode ins (pMsg n)) y) (hp : p <+: 32 :: (kC k ++ (32 :: 123 :: w))) :
    CutC p (pCases plu (pMsg (n + 1) ins) (f + 1) cs0 p) := by
  have kn : Neu (kC k) := by
    rcases hk with hk | rfl
    · exact kC_neu hk
    · exact kd_neu.2.2
  rcases pre_cons hp with rfl | ⟨q, rfl, hq⟩
  · exact CutC.late neu_nil (cases_cut (key_cut hk List.nil_prefix))
  · rcases pre_split hq with hq | ⟨r, rfl, hr⟩
    · refine CutC.late (neu_cons (by decide) (neu_pre hq kn)) ?_
      have : pCases plu (pMsg (n + 1) ins) (f + 1) cs0 (32 :: q) = pCases plu (pMsg (n + 1) ins) (f + 1) cs0 q := by
        rw [← cases_skip, skip32, cases_skip]
      rw [this]
      exact cases_cut (key_cut hk hq)
    · rcases pre_cons hr with rfl | ⟨r2, rfl, hr2⟩
      · rw [List.append_nil]
        refine CutC.late (neu_cons (by decide) kn) ?_
        have : pCases plu (pMsg (n + 1) ins) (f + 1) cs0 (32 :: kC k) = pCases plu (pMsg (n + 1) ins) (f + 1) cs0 (kC k) := by
          rw [← cases_skip, skip32, cases_skip]
        rw [this]
        exact cases_cut (key_cut hk (List.prefix_refl _))
      · have sc : ScanOk (32 :: (kC k ++ [32])) := ScanOk.neu (neu_cons (by decide) (neu_app kn neu_32))
        have e : 32 :: (kC k ++ 32 :: r2) = (32 :: (kC k ++ [32])) ++ r2 := by simp
        have pk : pCases plu (pMsg (n + 1) ins) (f + 1) cs0 (32 :: (kC k ++ 32 :: r2)) = (pExpect 123 (32 :: r2)).bind fun _ z2 => (pMsg (n + 1) ins z2).bind fun m z3 => (pExpect 125 z3).bind fun _ z4 =>
            if k = .s "other" then (pExpect 125 z4).bind fun _ z5 => .ok (cs0, m) z5 else pCases plu (pMsg (n + 1) ins) f (cs0 ++ [.mk k m]) z4 := by
          rw [pCases, key_at hk, PR.bind_ok]
          simp only
          rw [any_key hn, if_neg (by decide)]
        rw [pk]
        rcases pre_cons hr2 with rfl | ⟨y, rfl, hy⟩
        · rw [e]
          refine CutC.ahead sc (CutC.late neu_nil ?_)
          exact Late.fin
        · rw [e]
          refine CutC.ahead sc ?_
          have ex : pExpect 123 (32 :: 123 :: y) = .ok () y := expect_gap (g := [32]) gap1_32.1 sp_123
          rw [ex, PR.bind_ok]
          exact msg_cut (hM y hy) _ fun m => by rw [expect_nil]; rfl
/-- the rest of a choice that is cut -/
theorem cut_Cs {n : Nat} {ins plu : Bool} {o : List Nd} (hO : ∀ p, p <+: stL o → CutX (pNode ins (pMsg n)) p) (vo : vL ins o) (ho : lH o ≤ n) : ∀ (cs : List Cs), (∀ c ∈ cs, ∀ p, p <+: stL (cMsg c) → CutX (pNode ins (pMsg n)) p) → vCs ins cs → csH cs ≤ n → (∀ c ∈ cs, kOkP plu (cKey c)) →
    ∀ (cs0 : List Cs) (f : Nat) (p : List Nat), ((cs0 ++ cs).map cKey).Nodup → Ky.s "other" ∉ cs0.map cKey → p <+: stCs cs ++ othW [32] [32] [] (stL o) → p ≠ stCs cs ++ othW [32] [32] [] (stL o) → p.length ≤ f + 1 → CutC p (pCases plu (pMsg (n + 1) ins) (f + 1) cs0 p)
  | [], hC, hv, hh, hk, cs0, f, p, nd, no, hp, hne, hf => by
    rw [stCs, List.nil_append] at hp hne
    have e : othW [32] [32] [] (stL o) = (32 :: (kC (.s "other") ++ (32 :: 123 :: stL o))) ++ [125, 125] := by unfold othW kC; simp
    rw [e] at hp hne
    have e2 : ∀ r, (32 :: (kC (.s "other") ++ (32 :: 123 :: stL o))) ++ r = othW [32] [32] [] (stL o) ++ r ∨ True := fun _ => .inr trivial
    rcases pre_split hp with hp | ⟨q, rfl, hq⟩
    · exact case_cut (.inr rfl) no hO hp
    · have q1 : q = [] ∨ q = [125] := by
        rcases pre_cons hq with e | ⟨q2, e, hq2⟩
        · exact .inl e
        · rcases pre_cons hq2 with e2 | ⟨q3, e2, hq3⟩
          · rw [e, e2]; exact .inr rfl
          · rw [e, e2, pre_nil hq3] at hne; exact absurd rfl hne
      rcases q1 with rfl | rfl
      · rw [List.append_nil]
        exact case_cut (.inr rfl) no hO (List.prefix_refl _)
      · have sc : ScanOk (32 :: (kC (.s "other") ++ [32])) := ScanOk.neu (neu_cons (by decide) (neu_app kd_neu.2.2 neu_32))
        have so := scanL o ins vo
        have e3 : (32 :: (kC (.s "other") ++ (32 :: 123 :: stL o))) ++ [125] = (32 :: (kC (.s "other") ++ [32])) ++ (123 :: (stL o ++ [125])) := by simp
        have sc2 : ScanOk ((32 :: (kC (.s "other") ++ (32 :: 123 :: stL o))) ++ [125]) := by rw [e3]; exact ScanOk.app sc (ScanOk.br so)
        have hm := (reads_L o ins n (stL o) vo ho (stL_W o)).msg (r := [125]) (.inr rfl)
        have hm' : pMsg (n + 1) ins (stL o ++ [125]) = .ok (cutL o) [125] := hm
        have val : pCases plu (pMsg (n + 1) ins) (f + 1) cs0 ((32 :: (kC (.s "other") ++ (32 :: 123 :: stL o))) ++ [125]) = .fin := by
          have e4 : (32 :: (kC (.s "other") ++ (32 :: 123 :: stL o))) ++ [125] = 32 :: (kC (.s "other") ++ 32 :: (123 :: (stL o ++ [125]))) := by simp
          rw [e4, pCases, key_at (.inr rfl), PR.bind_ok]
          simp only
          have ex : pExpect 123 (32 :: 123 :: (stL o ++ [125])) = .ok () (stL o ++ [125]) := expect_gap (g := [32]) gap1_32.1 sp_123
          have ey : pExpect 125 [125] = .ok () [] := expect_gap (g := []) gap0 sp_125
          rw [any_key no, if_neg (by decide), ex, PR.bind_ok, hm', PR.bind_ok, ey, PR.bind_ok, if_pos trivial, expect_nil]; rfl
        refine .inr ⟨0, fun d => ?_, by rw [val]; exact Late.fin⟩
        have := sc2 [] d
        rw [List.append_nil] at this
        rw [this, scan.eq_def]
        simp
  | .mk k m :: cs, hC, hv, hh, hk, cs0, f, p, nd, no, hp, hne, hf => by
    rw [vCs, vC] at hv
    rw [csH, cH] at hh
    have hk1 : kOkP plu k := hk _ List.mem_cons_self
    have hn : k ∉ cs0.map cKey := by
      rw [List.map_append, List.map_cons] at nd
      have := (List.nodup_append.mp nd).2.2
      intro z
      exact this _ z _ List.mem_cons_self rfl
    have e : stCs (.mk k m :: cs) ++ othW [32] [32] [] (stL o) = (32 :: (kC k ++ (32 :: 123 :: stL m))) ++ (125 :: (stCs cs ++ othW [32] [32] [] (stL o))) := by rw [stCs, stC]; simp
    rw [e] at hp hne
    have hm0 := hC _ List.mem_cons_self
    rcases pre_split hp with hp | ⟨q, rfl, hq⟩
    · exact case_cut (.inl hk1) hn hm0 hp
    · rcases pre_cons hq with rfl | ⟨z, rfl, hz⟩
      · rw [List.append_nil]
        exact case_cut (.inl hk1) hn hm0 (List.prefix_refl _)
      · have kn := kC_neu hk1
        have sc : ScanOk (32 :: (kC k ++ [32])) := ScanOk.neu (neu_cons (by decide) (neu_app kn neu_32))
        have so := scanL m ins hv.1
        have e3 : (32 :: (kC k ++ (32 :: 123 :: stL m))) ++ 125 :: z = ((32 :: (kC k ++ [32])) ++ (123 :: (stL m ++ [125]))) ++ z := by simp
        have hM : ∀ r, r.head? = some 125 → pMsg (n + 1) ins (stL m ++ r) = .ok (cutL m) r := fun r hr => (reads_L m ins n (stL m) hv.1 (by omega) (stL_W m)).msg (.inr hr)
        have fl : 4 ≤ f + 1 := by
          rw [e3, List.length_append, List.length_append] at hf
          simp only [List.length_cons, List.length_append, List.length_nil] at hf
          omega
        obtain ⟨g, rfl⟩ : ∃ g, f = g + 1 := ⟨f - 1, by omega⟩
        have val : pCases plu (pMsg (n + 1) ins) (g + 1 + 1) cs0 ((32 :: (kC k ++ (32 :: 123 :: stL m))) ++ 125 :: z) = pCases plu (pMsg (n + 1) ins) (g + 1) (cs0 ++ [.mk k (cutL m)]) z := by
          have := case_read (plu := plu) (M := pMsg (n + 1) ins) (f := g + 1) (cs0 := cs0) (k := k) (m := cutL m) (g1 := [32]) (g2 := [32]) (a := stL m) (r := z) gap1_32.1 gap1_32.1 hk1 hn hM
          rw [← this]
          simp
        rw [val, e3]
        refine CutC.ahead (ScanOk.app sc (ScanOk.br so)) ?_
        refine cut_Cs hO vo ho cs (fun c hc => hC c (List.mem_cons_of_mem _ hc)) hv.2 (by omega) (fun c hc => hk c (List.mem_cons_of_mem _ hc)) _ g z ?_ ?_ hz (fun q => hne (by rw [q])) ?_
        · have : ((cs0 ++ [Cs.mk k (cutL m)] ++ cs).map cKey) = (cs0 ++ (Cs.mk k m :: cs)).map cKey := by simp [cKey]
          rw [this]; exact nd
        · rw [List.map_append]
          intro z
          rcases List.mem_append.mp z with z | z
          · exact no z
          · have : Ky.s "other" = k := List.mem_singleton.mp z
            rw [← this] at hk1
            exact hk1.2.1 rfl
        · rw [e3, List.length_append, List.length_append] at hf
          simp only [List.length_cons, List.length_append, List.length_nil] at hf
          omega

end
section
open PySem L2 DL
/-! ### nodes and messages that are cut -/
theorem skip_pre {p w : List Nat} (h : p <+: w) : pSkip p <+: pSkip w := by
  unfold pSkip
  induction p generalizing w with
  | nil => exact List.nil_prefix
  | cons c p ih =>
    cases w with
    | nil => cases pre_nil h
    | cons a w =>
      rw [List.cons_prefix_cons] at h
      obtain ⟨rfl, h⟩ := h
      rw [List.dropWhile_cons, List.dropWhile_cons]
      split
      · exact ih h
      · exact List.cons_prefix_cons.mpr ⟨rfl, h⟩
theorem isPre_of {a p w : List Nat} (h : a.isPrefixOf p = true) (hp : p <+: w) : a.isPrefixOf w = true := List.isPrefixOf_iff_prefix.mpr ((List.isPrefixOf_iff_prefix.mp h).trans hp)
/-- a name that is cut -/
theorem name_cut {ins : Bool} {M : Bool → List Nat → PR (List Nd)} {x : List Nat} (h : ∀ c ∈ x, inW LT c = true) (l8 : x.length ≤ 8) : pNode ins M (123 :: x) = .fin := by
  rw [pNode, if_pos rfl]
  unfold pBraces
  have e : pExpect 123 (123 :: x) = .ok () x := expect_gap (g := []) gap0 sp_123
  rw [e, PR.bind_ok, word_cut h l8]
  split
  · rfl
  · rfl
/-- behind the name -/
theorem head_cut {ins : Bool} {M : Bool → List Nat → PR (List Nd)} {n : Str} {q : List Nat} (hn : WdOk n) (hq : q = [] ∨ q.head? = some 44) : pNode ins M (123 :: (n.cps.toList ++ q)) = match q with
    | [] => .fin
    | _ :: z => (pWord z).bind fun k z4 => if k.1 = "select" then pChoice false ins M n z4 else if k.1 = "plural" then pChoice true ins M n z4 else .tok k.2 := by
  rcases hq with rfl | hq
  · rw [List.append_nil]
    exact name_cut hn.lt (by rw [len_cps]; exact hn.l8)
  · cases q with
    | nil => cases hq
    | cons c z =>
      cases hq
      rw [pNode, if_pos rfl]
      unfold pBraces
      have e : pExpect 123 (123 :: (n.cps.toList ++ 44 :: z)) = .ok () (n.cps.toList ++ 44 :: z) := expect_gap (g := []) gap0 sp_123
      have e2 : pExpect 44 (44 :: z) = .ok () z := expect_gap (g := []) gap0 sp_44
      have e3 : pSkip (44 :: z) = 44 :: z := dw_stop fun c hc => by cases hc; exact sp_44
      rw [e, PR.bind_ok, word_at hn (fun c hc => by cases hc; exact nl_44.1), PR.bind_ok, e3]
      simp only
      rw [if_neg (by decide), e2, PR.bind_ok]
/-- a choice that is cut: z is what stands behind the kind's comma -/
theorem choice_cut {ins plu : Bool} {M : Bool → List Nat → PR (List Nd)} {n : Str} {p w : List Nat} (hn : WdOk n) (hp : p <+: n.cps.toList ++ (44 :: 32 :: ((kd plu).cps.toList ++ (44 :: w)))) (hz : ∀ z, z <+: w → p = n.cps.toList ++ (44 :: 32 :: ((kd plu).cps.toList ++ (44 :: z))) → CutC z (pChoice plu ins M n (44 :: z))) :
    CutC p (pNode ins M (123 :: p)) := by
  have kw : WdOk (kd plu) := by cases plu; exact kind_wd.1; exact kind_wd.2
  have kn : Neu (kd plu).cps.toList := neu_lt kw.lt
  rcases pre_split hp with hp | ⟨q, rfl, hq⟩
  · rw [name_cut (fun c hc => hn.lt c (hp.subset hc)) (Nat.le_trans hp.length_le (by rw [len_cps]; exact hn.l8))]
    exact CutC.late (neu_pre hp (neu_lt hn.lt)) Late.fin
  · refine CutC.ahead (ScanOk.neu (neu_lt hn.lt)) ?_
    rcases pre_cons hq with rfl | ⟨q2, rfl, hq2⟩
    · rw [head_cut hn (.inl rfl)]
      exact CutC.late neu_nil Late.fin
    · rw [head_cut hn (.inr rfl)]
      simp only
      rcases pre_cons hq2 with rfl | ⟨q3, rfl, hq3⟩
      · exact CutC.late (neu_cons (by decide) neu_nil) Late.fin
      · rcases pre_split hq3 with hq3 | ⟨q4, rfl, hq4⟩
        · have ql : ∀ c ∈ q3, inW LT c = true := fun c hc => kw.lt c (hq3.subset hc)
          have q8 : q3.length ≤ 8 := Nat.le_trans hq3.length_le (by rw [len_cps]; exact kw.l8)
          have e : pWord (32 :: q3) = pWord q3 := by
            unfold pWord
            rw [skip32]
          refine CutC.late (neu_cons (by decide) (neu_cons (by decide) (neu_lt ql))) ?_
          rw [e, word_cut ql q8]
          split
          · exact Late.fin
          · rw [PR.bind_ok]
            split
            · exact Late.fin
            · split
              · exact Late.fin
              · exact Late.tok q8
        · refine CutC.ahead (a := 44 :: 32 :: (kd plu).cps.toList) (p := q4) (ScanOk.neu (neu_cons (by decide) (neu_cons (by decide) kn))) ?_
          have hd : ∀ c, q4.head? = some c → inW LT c = false := fun c hc => by
            rcases pre_cons hq4 with rfl | ⟨q5, rfl, _⟩
            · cases hc
            · cases hc; exact nl_44.1
          have ew : pWord (32 :: ((kd plu).cps.toList ++ q4)) = .ok (kd plu, ((kd plu).cps.toList ++ q4).length) q4 := word_gap (g := [32]) gap1_32.1 kw hd
          rw [ew, PR.bind_ok]
          have pick : ∀ b : PR Nd, (if (kd plu, ((kd plu).cps.toList ++ q4).length).1 = "select" then pChoice false ins M n q4 else if (kd plu, ((kd plu).cps.toList ++ q4).length).1 = "plural" then pChoice true ins M n q4 else b) = pChoice plu ins M n q4 := fun b => by
            cases plu with
            | false => rw [if_pos (show kd false = "select" from rfl)]
            | true => rw [if_neg (show ¬ kd true = "select" by decide +kernel), if_pos (show kd true = "plural" from rfl)]
          rw [pick]
          rcases pre_cons hq4 with rfl | ⟨z, rfl, hz2⟩
          · exact CutC.late neu_nil Late.fin
          · have := hz z hz2 (by simp)
            exact CutC.ahead (a := [44]) (ScanOk.neu (neu_cons (by decide) neu_nil)) this
theorem comma_at (z : List Nat) : pExpect 44 (44 :: z) = .ok () z := expect_gap (g := []) gap0 sp_44
theorem off_word {x : List Nat} (hx : x <+: OF.cps.toList) (hne : x ≠ OF.cps.toList) : (∀ c ∈ x, inW LT c = true) ∧ x.length ≤ 6 := by
  have e : OF.cps.toList = [111, 102, 102, 115, 101, 116] ++ [58] := by decide +kernel
  rw [e] at hx hne
  rcases pre_split hx with hx | ⟨q, rfl, hq⟩
  · refine ⟨fun c hc => ?_, hx.length_le⟩
    have m := hx.subset hc
    simp only [List.mem_cons, List.not_mem_nil, or_false] at m
    rw [inLt]
    exact decide_eq_true (by omega)
  · rcases pre_cons hq with rfl | ⟨q2, rfl, hq2⟩
    · refine ⟨fun c hc => ?_, by decide⟩
      simp only [List.append_nil, List.mem_cons, List.not_mem_nil, or_false] at hc
      rw [inLt]
      exact decide_eq_true (by omega)
    · rw [pre_nil hq2] at hne; exact absurd rfl hne
mutual
theorem cut_N : ∀ (nd : Nd) (ins : Bool) (n : Nat) (p : List Nat), vN ins nd → nH nd ≤ n → p <+: stN nd → p ≠ stN nd → CutM (pNode ins (pMsg n)) (cutN nd) p
  | .text x, ins, n, p, hv, hh, hp, hne => by
    rw [stN] at hp; rw [vN] at hv; rw [cutN]
    exact cut_text _ p hv hp
  | .shw nm, ins, n, p, hv, hh, hp, hne => by
    rw [stN] at hp hne; rw [vN] at hv
    rcases pre_cons hp with rfl | ⟨q, rfl, hq⟩
    · exact CutM.nil _ _
    · refine CutM.brace ?_
      rcases pre_split hq with hq | ⟨r, rfl, hr⟩
      · rw [name_cut (fun c hc => hv.lt c (hq.subset hc)) (Nat.le_trans hq.length_le (by rw [len_cps]; exact hv.l8))]
        exact CutC.late (neu_pre hq (neu_lt hv.lt)) Late.fin
      · rcases pre_cons hr with rfl | ⟨r2, rfl, hr2⟩
        · rw [List.append_nil, name_cut hv.lt (by rw [len_cps]; exact hv.l8)]
          exact CutC.late (neu_lt hv.lt) Late.fin
        · rw [pre_nil hr2] at hne; exact absurd rfl hne
  | .num, ins, n, p, hv, hh, hp, hne => by
    rw [stN] at hp hne
    rcases pre_cons hp with rfl | ⟨q, rfl, hq⟩
    · exact CutM.nil _ _
    · rw [pre_nil hq] at hne; exact absurd rfl hne
  | .sel nm cs o, ins, n, p, hv, hh, hp, hne => by
    rw [stN] at hp hne; rw [vN] at hv; rw [nH] at hh
    obtain ⟨v1, v2, v3, v4, v5⟩ := hv
    obtain ⟨n, rfl⟩ : ∃ k, n = k + 1 := ⟨n - 1, by omega⟩
    rcases pre_cons hp with rfl | ⟨q, rfl, hq⟩
    · exact CutM.nil _ _
    · refine CutM.brace (choice_cut (plu := false) v1 hq fun z hz ez => ?_)
      unfold pChoice
      rw [comma_at, PR.bind_ok, if_neg (by decide)]
      refine CutC.bind ?_
      refine cut_Cs (fun p hp => ⟨_, cut_L o ins n p v5 (by omega) hp⟩) v5 (by omega) cs (cut_CsL cs ins n v4 (by omega)) v4 (by omega) v2 [] z.length z (by rw [List.nil_append]; exact v3) (by simp) hz (fun e => hne ?_) (by omega)
      rw [ez, e]; rfl
  | .plu nm f cs o, ins, n, p, hv, hh, hp, hne => by
    rw [stN] at hp hne; rw [vN] at hv; rw [nH] at hh
    obtain ⟨v1, v6, v2, v3, v4, v5⟩ := hv
    obtain ⟨n, rfl⟩ : ∃ k, n = k + 1 := ⟨n - 1, by omega⟩
    rcases pre_cons hp with rfl | ⟨q, rfl, hq⟩
    · exact CutM.nil _ _
    · refine CutM.brace (choice_cut (plu := true) v1 hq fun z hz ez => ?_)
      unfold pChoice
      rw [comma_at, PR.bind_ok, if_pos rfl]
      have nil : ∀ g, CutC [] ((pCases true (pMsg (n + 1) true) (g + 1) [] []).bind fun cm z3 => (PR.ok (Nd.plu nm f cm.1 cm.2) z3)) := fun g => CutC.late neu_nil (late_bind (cases_cut (.inr Late.fin)))
      have fin0 : ∀ (g : Nat) (F : List Cs × List Nd → List Nat → PR Nd), Late ((pCases true (pMsg (n + 1) true) (g + 1) [] []).bind F) := fun g F => late_bind (cases_cut (.inr Late.fin))
      have main : ∀ (z : List Nat) (g : Nat) (F : List Cs × List Nd → List Nat → PR Nd), z <+: stCs cs ++ othW [32] [32] [] (stL o) → z ≠ stCs cs ++ othW [32] [32] [] (stL o) → z.length ≤ g + 1 → CutC z ((pCases true (pMsg (n + 1) true) (g + 1) [] z).bind F) := fun z g F hz hn hg =>
        CutC.bind (cut_Cs (fun p hp => ⟨_, cut_L o true n p v5 (by omega) hp⟩) v5 (by omega) cs (cut_CsL cs true n v4 (by omega)) v4 (by omega) v2 [] g z (by rw [List.nil_append]; exact v3) (by simp) hz hn hg)
      have hne2 : z ≠ offS f ++ (stCs cs ++ othW [32] [32] [] (stL o)) := fun e => hne (by rw [ez, e]; rfl)
      by_cases f0 : f = 0
      · have o0 : offS f = [] := by unfold offS; rw [if_pos f0]
        rw [o0, List.nil_append] at hz hne2
        have op : OF.cps.toList.isPrefixOf (pSkip z) = false := by
          cases y : OF.cps.toList.isPrefixOf (pSkip z) with
          | false => rfl
          | true =>
            have := isPre_of y (skip_pre hz)
            have w := off_skip (cs := cs) (w := stCs cs) (h1 := [32]) (h2 := [32]) (h3 := []) (a := stL o) (r := []) (stCs_W cs) v2 gap1_32
            rw [List.append_nil] at w
            rw [w] at this; cases this
        unfold pOff
        rw [op, if_neg (by decide), PR.bind_ok, cases_skip]
        refine main z _ _ hz hne2 ?_
        cases z with
        | nil => exact Nat.zero_le _
        | cons c z2 =>
          have hd : c = 32 := by
            have := head_tail (cs := cs) (w := stCs cs) (h1 := [32]) (h2 := [32]) (h3 := []) (a := stL o) (r := []) (stCs_W cs) gap1_32
            cases cs with
            | nil =>
              rw [stCs, List.nil_append] at hz
              unfold othW at hz
              exact (List.cons_prefix_cons.mp hz).1
            | cons c2 cs2 =>
              cases c2 with
              | mk k m =>
                rw [stCs, stC] at hz
                exact (List.cons_prefix_cons.mp hz).1
          subst hd
          rw [skip32]
          cases z2 with
          | nil => exact Nat.le_refl _
          | cons d z3 =>
            have : d ≠ 32 ∧ d ≠ 10 := by
              have key : ∀ (k : Ky) (r : List Nat), (kOkP true k ∨ k = .s "other") → d :: z3 <+: kC k ++ r → d ≠ 32 ∧ d ≠ 10 := fun k r hk hp => by
                have nsp : ∀ c, (kC k ++ r).head? = some c → inW spW c = false := by
                  rcases hk with hk | rfl
                  · exact kC_sp k true hk r
                  · exact fun c hc => lt_sp (oth_wd.head r c hc)
                cases y : kC k ++ r with
                | nil => rw [y] at hp; cases pre_nil hp
                | cons e w =>
                  rw [y] at hp nsp
                  have := (List.cons_prefix_cons.mp hp).1
                  have q := nsp e rfl
                  rw [← this, inSp] at q
                  have := of_decide_eq_false q
                  omega
              cases cs with
              | nil =>
                rw [stCs, List.nil_append] at hz
                unfold othW at hz
                exact key (.s "other") _ (.inr rfl) (List.cons_prefix_cons.mp hz).2
              | cons c2 cs2 =>
                cases c2 with
                | mk k m =>
                  rw [stCs, stC, List.append_assoc, List.cons_append, List.append_assoc] at hz
                  exact key k _ (.inl (v2 _ List.mem_cons_self)) (List.cons_prefix_cons.mp hz).2
            have e : pSkip (d :: z3) = d :: z3 := dw_stop fun c hc => by cases hc; rw [inSp]; exact decide_eq_false (by omega)
            rw [e]
            simp
      · have o1 : offS f = 32 :: (OF.cps.toList ++ (nt f.toNat).cps.toList) := by unfold offS; rw [if_neg f0]
        rw [o1] at hz hne2
        obtain ⟨i, rfl, hi⟩ := v6
        rw [Int.toNat_natCast] at hz hne2 o1
        rw [List.cons_append, List.append_assoc] at hz
        obtain ⟨a1, a2, a3, a4, a5⟩ := nt_list (i := i) (by omega)
        have offA : ∀ y : List Nat, pOff (32 :: (OF.cps.toList ++ y)) = pNat 9 y := fun y => by
          have sp : ∀ c, (OF.cps.toList ++ y).head? = some c → inW spW c = false := fun c hc => by
            have e : OF.cps.toList = [111, 102, 102, 115, 101, 116, 58] := by decide +kernel
            rw [e] at hc
            cases hc
            decide +kernel
          unfold pOff
          rw [skip32, show pSkip (OF.cps.toList ++ y) = OF.cps.toList ++ y from dw_stop sp, if_pos (List.isPrefixOf_iff_prefix.mpr (List.prefix_append _ _)), ← off_len, List.drop_left]
        rcases pre_cons hz with rfl | ⟨z1, rfl, hz1⟩
        · refine CutC.late neu_nil ?_
          have e0 : pOff [] = .ok 0 [] := rfl
          rw [e0, PR.bind_ok]
          exact fin0 0 _
        · rcases pre_split hz1 with hz1 | ⟨z2, rfl, hz2⟩
          · by_cases ew : z1 = OF.cps.toList
            · have : pOff (32 :: z1) = .fin := by
                have := offA []
                rw [List.append_nil] at this
                rw [ew, this]; rfl
              rw [this]
              exact CutC.late (neu_cons (by decide) (neu_pre hz1 OF_neu)) Late.fin
            · obtain ⟨wl, w6⟩ := off_word hz1 ew
              have sk : pSkip (32 :: z1) = z1 := by
                rw [skip32]
                exact dw_stop fun c hc => by
                  cases z1 with
                  | nil => cases hc
                  | cons d y => cases hc; exact lt_sp (wl _ List.mem_cons_self)
              have op : OF.cps.toList.isPrefixOf z1 = false := by
                cases y : OF.cps.toList.isPrefixOf z1 with
                | false => rfl
                | true =>
                  have := (List.isPrefixOf_iff_prefix.mp y).length_le
                  rw [off_len] at this; omega
              refine CutC.late (neu_cons (by decide) (neu_lt wl)) ?_
              unfold pOff
              rw [sk, op, if_neg (by decide), PR.bind_ok]
              refine late_bind (cases_cut ?_)
              have sk1 : pSkip z1 = z1 := by rw [skip32] at sk; exact sk
              unfold pKey
              rw [sk1, if_neg (fun z => by
                cases z1 with
                | nil => cases z.2
                | cons a w =>
                  have z2 : a = 61 := Option.some.inj z.2
                  have := wl a List.mem_cons_self
                  rw [z2, inLt] at this
                  exact absurd this (by decide)), word_cut wl (by omega)]
              split
              · exact .inr Late.fin
              · rw [PR.bind_ok]
                split
                · exact .inr (Late.tok (by show z1.length ≤ 8; omega))
                · exact .inl ⟨_, by show z1.length ≤ 8; omega, rfl⟩
          · rw [offA]
            rcases pre_split hz2 with hz2 | ⟨z3, rfl, hz3⟩
            · have wl : ∀ c ∈ z2, inW FG c = true := fun c hc => a1 c (hz2.subset hc)
              refine CutC.late (neu_cons (by decide) (neu_app OF_neu (neu_fg wl))) ?_
              rcases nat_cut (m := 9) wl (Nat.le_trans hz2.length_le a3) with ⟨v, hv⟩ | l
              · rw [hv, PR.bind_ok]
                exact fin0 0 _
              · exact late_bind l
            · have hd : ∀ c, z3.head? = some c → inW FG c = false := fun c hc => by
                cases z3 with
                | nil => cases hc
                | cons d z4 =>
                  have := head_tail (cs := cs) (w := stCs cs) (h1 := [32]) (h2 := [32]) (h3 := []) (a := stL o) (r := []) (stCs_W cs) gap1_32
                  rw [List.append_nil] at this
                  cases hc
                  cases y : stCs cs ++ othW [32] [32] [] (stL o) with
                  | nil => rw [y] at hz3; cases pre_nil hz3
                  | cons e w =>
                    rw [y] at hz3 this
                    have := this e rfl
                    rw [(List.cons_prefix_cons.mp hz3).1]; exact this.2
              rw [nat_read hi (by decide) hd, PR.bind_ok]
              have sc : ScanOk (32 :: (OF.cps.toList ++ (nt i).cps.toList)) := ScanOk.neu (neu_cons (by decide) (neu_app OF_neu (nt_neu (by omega))))
              have e : 32 :: (OF.cps.toList ++ ((nt i).cps.toList ++ z3)) = (32 :: (OF.cps.toList ++ (nt i).cps.toList)) ++ z3 := by simp
              rw [e] at hne2 ⊢
              exact CutC.ahead sc (main z3 _ _ hz3 (fun q => hne2 (by rw [q])) (Nat.le_succ _))
theorem cut_L : ∀ (m : List Nd) (ins : Bool) (n : Nat) (p : List Nat), vL ins m → lH m ≤ n → p <+: stL m → CutM (pNode ins (pMsg n)) (cutL m) p
  | [], ins, n, p, hv, hh, hp => by
    rw [stL] at hp
    rw [pre_nil hp]; exact CutM.nil _ _
  | nd :: r, ins, n, p, hv, hh, hp => by
    rw [stL] at hp; rw [vL] at hv; rw [lH] at hh; rw [cutL]
    have whole : ∀ q, q <+: stL r → CutM (pNode ins (pMsg n)) (cutN nd ++ cutL r) (stN nd ++ q) := fun q hq =>
      CutM.ahead (scanN nd ins hv.1) (reads_N nd ins n (stN nd) hv.1 (by omega) (stN_W nd)) (cut_L r ins n q hv.2 (by omega) hq)
    rcases pre_split hp with hp | ⟨q, rfl, hq⟩
    · by_cases e : p = stN nd
      · have := whole [] List.nil_prefix
        rw [List.append_nil, ← e] at this; exact this
      · rcases cut_N nd ins n p hv.1 (by omega) hp e with ⟨h1, ns, h2, h3⟩ | h
        · exact .inl ⟨h1, ns, h2, h3.trans (List.prefix_append _ _)⟩
        · exact .inr h
    · exact whole q hq
theorem cut_CsL : ∀ (cs : List Cs) (ins : Bool) (n : Nat), vCs ins cs → csH cs ≤ n → ∀ c ∈ cs, ∀ p, p <+: stL (cMsg c) → CutX (pNode ins (pMsg n)) p
  | [], ins, n, hv, hh, c, hc, p, hp => by cases hc
  | .mk k m :: cs, ins, n, hv, hh, c, hc, p, hp => by
    rw [vCs, vC] at hv; rw [csH, cH] at hh
    rcases List.mem_cons.mp hc with e | hc
    · rw [e] at hp
      exact ⟨_, cut_L m ins n p hv.1 (by omega) hp⟩
    · exact cut_CsL cs ins n hv.2 (by omega) c hc p hp
end

end
section
open PySem L2 DL
/-! ### the law -/
theorem scan_drop {w : List Nat} {p : Nat} {c : Nat} (h : w[p]? = some c) : w.drop p = c :: w.drop (p + 1) := by
  have hp := (List.getElem?_eq_some_iff.mp h).1
  rw [List.drop_eq_getElem_cons hp]
  congr 1
  exact (List.getElem?_eq_some_iff.mp h).2
theorem cut2 (w : List Nat) (p : Nat) (hp : p ≤ w.length) : cutS (mkS w) (some (p : Int)) (some ((p + 2 : Nat) : Int)) = mkS ((w.drop p).take 2) := by
  have e : cutS (mkS w) (some (p : Int)) (some ((p + 2 : Nat) : Int)) = ⟨(((mkS w).cps.toList.drop (HT.sIx (mkS w).length 0 (some (p : Int)))).take (HT.sIx (mkS w).length (mkS w).length (some ((p + 2 : Nat) : Int)) - HT.sIx (mkS w).length 0 (some (p : Int)))).toArray⟩ := rfl
  rw [e, HT.sIx_nat, HT.sIx_nat, len_mkS, cps_mkS, Nat.min_eq_left hp]
  unfold mkS
  congr 2
  by_cases h : p + 2 ≤ w.length
  · rw [Nat.min_eq_left h, Nat.add_sub_cancel_left]
  · rw [Nat.min_eq_right (by omega), List.take_of_length_le (by rw [List.length_drop]; omega), List.take_of_length_le (by rw [List.length_drop]; omega)]
theorem cutTo (w : List Nat) (k : Nat) (hk : k ≤ w.length) : cutS (mkS w) none (some (k : Int)) = mkS (w.take k) := by
  have e : cutS (mkS w) none (some (k : Int)) = ⟨(((mkS w).cps.toList.drop (HT.sIx (mkS w).length 0 none)).take (HT.sIx (mkS w).length (mkS w).length (some (k : Int)) - HT.sIx (mkS w).length 0 none)).toArray⟩ := rfl
  have z : HT.sIx (mkS w).length 0 none = 0 := rfl
  rw [e, HT.sIx_nat, z, len_mkS, cps_mkS, Nat.min_eq_left hk]
  rfl
theorem mkS_qq (l : List Nat) : (mkS l == ("''" : Str)) = decide (l = [39, 39]) := by
  by_cases h : l = [39, 39]
  · subst h; decide +kernel
  · rw [decide_eq_false h]
    cases e : mkS l == ("''" : Str) with
    | false => rfl
    | true =>
      exfalso
      have e2 : mkS l = ("''" : Str) := eq_of_beq e
      have e3 : (mkS l).cps.toList = (("''" : Str)).cps.toList := by rw [e2]
      have e4 : (("''" : Str)).cps.toList = [39, 39] := by decide +kernel
      rw [e4] at e3
      exact h e3
def gOp (w : List Nat) (d : Int) (p : Nat) (st : Int) (x : Sl) : List Sl := [.val (.str (mkS w)), .val (.int d), .val (.int (p : Int)), .val (.int st), x]
/-- the invariant of the law's scan -/
def OpI (w : List Nat) (j : Nat) (d : Int) (p : Nat) (st : Int) : Prop := (p ≤ w.length ∧ (j ≤ p ∨ p = w.length) ∧ scan (w.drop p) d = scan w 0) ∨ (w.length < p ∧ ∃ k : Nat, scan w 0 = (d, some k) ∧ st = (w.length : Int) - k)
theorem open_step (R : Rec) (w : List Nat) (hl : w.length ≤ 900000) (j : Nat) (d : Int) (p : Nat) (st : Int) (x : D) (S : List D) (hi : OpI w j d p st) :
    ∃ d' p' st', L_1011_1 R (gOp w d p st (.val x)) S = .next (gOp w d' p' st' (.val x)) S ∧ OpI w (j + 1) d' p' st' := by
  rw [e_L_1011_1]
  have hl' : (mkS w).length ≤ sizeLine := by rw [len_mkS]; exact Nat.le_trans hl (by decide)
  have ln := dLen_s hl'
  rw [len_mkS] at ln
  unfold gOp
  by_cases c : p < w.length
  · have c1 : (p : Int) < (w.length : Int) := by omega
    have hi2 : p ≤ w.length ∧ (j ≤ p ∨ p = w.length) ∧ scan (w.drop p) d = scan w 0 := by
      rcases hi with h | ⟨h1, _⟩
      · exact h
      · omega
    obtain ⟨h1, h2, h3⟩ := hi2
    obtain ⟨a, ha⟩ : ∃ a, w[p]? = some a := ⟨w[p], List.getElem?_eq_getElem c⟩
    have ix : dIdx (.str (mkS w)) (.int p) = some (.str (sg a)) := dIdx_s hl' (by unfold cAt; rw [cps_mkS]; exact ha)
    have dr := scan_drop ha
    have e1 := sg_q a
    have sl := cut2 w p (by omega)
    have dc := dCut_s hl' (some (p : Int)) (some ((p + 2 : Nat) : Int))
    rw [sl] at dc
    have qq := mkS_qq ((w.drop p).take 2)
    by_cases a1 : a = 39
    · rw [decide_eq_true a1] at e1
      subst a1
      rw [dr] at h3 qq
      by_cases b1 : (39 :: w.drop (p + 1)).take 2 = [39, 39]
      · rw [decide_eq_true b1] at qq
        have b2 : w.drop (p + 1) = 39 :: w.drop (p + 2) := by
          cases y : w.drop (p + 1) with
          | nil => rw [y] at b1; simp at b1
          | cons b r =>
            rw [y] at b1
            have : b = 39 := by simpa using b1
            have z : (w.drop (p + 1)).drop 1 = w.drop (p + 2) := by rw [List.drop_drop]
            rw [y] at z
            rw [this, ← z]; rfl
        have pl : p + 2 ≤ w.length := by
          have := congrArg List.length b2
          simp only [List.length_drop, List.length_cons] at this
          omega
        rw [b2, scan_q2] at h3
        refine ⟨d, p + 2, p, ?_, .inl ⟨pl, .inl (by omega), h3⟩⟩
        rw [dr] at dc
        have ep : ((p + 2 : Nat) : Int) = (p : Int) + 2 := by omega
        rw [ep] at dc ⊢
        generalize (39 :: w.drop (p + 1)).take 2 = sl2 at *
        simp [ln, c1, ix, e1, dc, qq]
      · rw [decide_eq_false b1] at qq
        rw [dr] at dc
        have ep : ((p + 2 : Nat) : Int) = (p : Int) + 2 := by omega
        rw [ep] at dc
        have hi3 : OpI w (j + 1) d (p + 3) p := by
          cases y : w.drop (p + 1) with
          | nil =>
            have pl : w.length = p + 1 := by
              have := congrArg List.length y
              simp only [List.length_drop, List.length_nil] at this
              omega
            rw [y, scan_q1] at h3
            exact .inr ⟨by omega, 1, h3.symm, by omega⟩
          | cons b r =>
            have b9 : b ≠ 39 := fun z => b1 (by rw [y, z]; rfl)
            cases r with
            | nil =>
              have pl : w.length = p + 2 := by
                have := congrArg List.length y
                simp only [List.length_drop, List.length_cons, List.length_nil] at this
                omega
              rw [y, scan_q3 b9] at h3
              exact .inr ⟨by omega, 2, h3.symm, by omega⟩
            | cons g r =>
              rw [y, scan_q4 b9] at h3
              have z : (w.drop (p + 1)).drop 2 = w.drop (p + 3) := by rw [List.drop_drop]
              rw [y] at z
              have pl : p + 3 ≤ w.length := by
                have := congrArg List.length y
                simp only [List.length_drop, List.length_cons] at this
                omega
              exact .inl ⟨pl, .inl (by omega), by rw [← z]; exact h3⟩
        refine ⟨d, p + 3, p, ?_, hi3⟩
        have e3 : ((p + 3 : Nat) : Int) = (p : Int) + 2 + 1 := by omega
        rw [e3]
        generalize (39 :: w.drop (p + 1)).take 2 = sl2 at *
        simp [ln, c1, ix, e1, dc, qq]
    · rw [decide_eq_false a1] at e1
      rw [dr, scan_c a1] at h3
      have e2 := sg_ne (c := a) (d := 123)
      have e3 := sg_ne (c := a) (d := 125)
      rw [← q_ob] at e2
      rw [← q_cb] at e3
      refine ⟨d + brD a, p + 1, st, ?_, .inl ⟨by omega, .inl (by
        rcases h2 with h2 | h2 <;> omega), h3⟩⟩
      have ep : ((p + 1 : Nat) : Int) = (p : Int) + 1 := by omega
      rw [ep]
      unfold brD
      by_cases a2 : a = 123
      · have a3 : ¬ a = 125 := by omega
        rw [decide_eq_true a2] at e2
        rw [decide_eq_false a3] at e3
        rw [if_pos a2, if_neg a3]
        simp [ln, c1, ix, e1, e2, e3]
      · rw [decide_eq_false a2] at e2
        rw [if_neg a2]
        by_cases a3 : a = 125
        · rw [decide_eq_true a3] at e3
          rw [if_pos a3]
          simp [ln, c1, ix, e1, e2, e3]
          omega
        · rw [decide_eq_false a3] at e3
          rw [if_neg a3]
          simp [ln, c1, ix, e1, e2, e3]
  · have c1 : ¬ (p : Int) < (w.length : Int) := by omega
    refine ⟨d, p, st, by simp [ln, c1], ?_⟩
    rcases hi with ⟨h1, h2, h3⟩ | h
    · exact .inl ⟨h1, .inr (by omega), h3⟩
    · exact .inr h
theorem run_open (n : Nat) (w : List Nat) (hl : w.length ≤ 900000) (S : List D) : ∃ st : Int, run (n + 1) 1011 [.str (mkS w)] S = .ok (.lst [.int (scan w 0).1, .int st]) S ∧ (match (scan w 0).2 with | none => st = -1 | some k => st = (w.length : Int) - k) := by
  rw [run_1011]
  have hl' : (mkS w).length ≤ sizeLine := by rw [len_mkS]; exact Nat.le_trans hl (by decide)
  have ln := dLen_s hl'
  rw [len_mkS] at ln
  have lp := forD_wp (p := .nm 4) (kl := [4]) (β := L_1011_1 (run n)) (R := fun _ _ => False) (N := fun Γ S2 => ∃ d p st, Γ = gOp w d p st .non ∧ S2 = S ∧ OpI w w.length d p st)
    (fun j Γ S2 => ∃ d p st, Γ = gOp w d p st .non ∧ S2 = S ∧ OpI w j d p st) (rangeD 0 w.length) 0 (gOp w 0 0 (-1) .non) S ⟨0, 0, -1, rfl, rfl, .inl ⟨Nat.zero_le _, .inl (Nat.le_refl _), rfl⟩⟩
    (fun j x Γ S2 hx ⟨d, p, st, hΓ, hS, hi⟩ => by
      subst hΓ; subst hS
      rw [Nat.zero_add] at hi ⊢
      refine ⟨_, x_bnm, ?_⟩
      obtain ⟨d', p', st', e, hi'⟩ := open_step (run n) w hl j d p st x S2 hi
      have bd : (gOp w d p st .non).set 4 (.val x) = gOp w d p st (.val x) := rfl
      rw [bd, e]
      exact ⟨d', p', st', rfl, rfl, hi'⟩)
    (fun Γ S2 h => by rw [rangeD_len, Nat.zero_add] at h; exact h)
  revert lp
  generalize hf : forD (.nm 4) [4] (L_1011_1 (run n)) (rangeD 0 w.length) (gOp w 0 0 (-1) .non) S = o
  intro lp
  have ir : inR (w.length : Int) = true := inR_of (by omega)
  cases o with
  | next Γ S2 =>
    obtain ⟨d, p, st, rfl, rfl, hi⟩ := lp
    unfold gOp at hf
    rcases hi with ⟨h1, h2, h3⟩ | ⟨h1, k, h2, h3⟩
    · have pe : p = w.length := by omega
      subst pe
      rw [List.drop_length, scan.eq_def] at h3
      have s1 : (scan w 0).1 = d := by rw [← h3]
      have s2 : (scan w 0).2 = none := by rw [← h3]
      refine ⟨-1, ?_, by rw [s2]⟩
      rw [s1]
      have hf' : forD (.nm 4) [4] (L_1011_1 (run n)) (rangeD 0 w.length) [.val (.str (mkS w)), .val (.int 0), .val (.int 0), .val (.int (-1)), .non] S2 = _ := hf
      simp [B_1011, ln, ir, hf']
    · have s1 : (scan w 0).1 = d := by rw [h2]
      have s2 : (scan w 0).2 = some k := by rw [h2]
      refine ⟨st, ?_, by rw [s2]; exact h3⟩
      rw [s1]
      have hf' : forD (.nm 4) [4] (L_1011_1 (run n)) (rangeD 0 w.length) [.val (.str (mkS w)), .val (.int 0), .val (.int 0), .val (.int (-1)), .non] S2 = _ := hf
      have c1 : ¬ (p : Int) ≤ (w.length : Int) := by omega
      simp [B_1011, ln, ir, hf', c1]
  | _ => exact lp.elim

end
section
open PySem L2 DL
theorem scan_le : ∀ (n : Nat) (l : List Nat) (d d' : Int) (k : Nat), l.length ≤ n → scan l d = (d', some k) → k ≤ l.length
  | 0, l, d, d', k, hl, h => by
    have e : l = [] := List.eq_nil_of_length_eq_zero (by omega)
    subst e
    rw [scan.eq_def] at h; cases h
  | n + 1, [], d, d', k, hl, h => by rw [scan.eq_def] at h; cases h
  | n + 1, c :: r, d, d', k, hl, h => by
    rw [List.length_cons] at hl ⊢
    by_cases c1 : c = 39
    · subst c1
      cases r with
      | nil => rw [scan_q1] at h; cases h; decide
      | cons a r2 =>
        rw [List.length_cons] at hl ⊢
        by_cases c2 : a = 39
        · subst c2
          rw [scan_q2] at h
          have := scan_le n r2 d d' k (by omega) h; omega
        · cases r2 with
          | nil => rw [scan_q3 c2] at h; cases h; decide
          | cons b r3 =>
            rw [List.length_cons] at hl ⊢
            rw [scan_q4 c2] at h
            have := scan_le n r3 d d' k (by omega) h; omega
    · rw [scan_c c1] at h
      have := scan_le n r _ d' k (by omega) h; omega
theorem lOk_pre {a b : List Nd} (h : a <+: b) : (lOk b = true → lOk a = true) ∧ lH a ≤ lH b ∧ lW a ≤ lW b := by
  obtain ⟨c, rfl⟩ := h
  refine ⟨fun h => ?_, ?_, ?_⟩
  · rw [lOk_app, Bool.and_eq_true] at h; exact h.1
  · rw [lH_app]; omega
  · rw [lW_app]; omega
def gLaw (ns : List Int) (m : D) (w : D) (x4 x5 x6 x7 x8 x9 : Sl) : List Sl := [.val (.scr ns), .val (.ptr 0), .val m, .val w, x4, x5, x6, x7, x8, x9]
theorem ne_si (x : Str) (i : Int) (h : PyData.canLay0 (.str x) = true) : cNe (.int i) (.str x) = some (.bl true) := by
  show (if PyData.canLay0 (.int i) = true ∧ PyData.canLay0 (.str x) = true ∧ min (PyData.depth (.int i)) (PyData.depth (.str x)) ≤ 64 then some (PyData.eqv (.int i) (.str x)) else none).map (fun k => D.bl (!k)) = _
  rw [if_pos ⟨rfl, h, Nat.le_trans (Nat.min_le_right _ _) (by show (0 : Nat) ≤ 64; decide)⟩]
  rfl
theorem end_ok : PyData.canLay0 (.str "end") = true := by decide +kernel
theorem msg_eq (n : Nat) (ins : Bool) (y : List Nat) : pMsg (n + 1) ins y = pNodes (pNode ins (pMsg n)) (y.length + 1) [] y := rfl
/-- what the program says of a beginning -/
theorem told (n : Nat) {m : List Nd} {p : List Nat} (S : List D) (hv : vL false m) (ho : lOk m = true) (hH : lH m ≤ n) (hH2 : lH m ≤ 30 ∧ 2 * lH m + 2 ≤ 4 * (n + 1) + 6) (hW : lW m ≤ 800000) (hp : p <+: stL m) (pl : p.length ≤ 800000) :
    (∃ d2 R, scan p 0 = (0, none) ∧ run (4 * (n + 1) + 7) 70 [.str (mkS p)] S = .ok d2 (S ++ R)) ∨
    (∃ d q R, q ≤ p.length ∧ scan p 0 = (d, some q) ∧ run (4 * (n + 1) + 7) 70 [.str (mkS p)] S = .exc (tokX (p.length - q)) (S ++ R)) ∨
    (∃ (e : Nat) (R : List D), 0 < e ∧ scan p 0 = (0 + (e : Int), none) ∧ (run (4 * (n + 1) + 7) 70 [.str (mkS p)] S = .exc finX (S ++ R) ∨ ∃ q, q ≤ 8 ∧ run (4 * (n + 1) + 7) 70 [.str (mkS p)] S = .exc (tokX (p.length - q)) (S ++ R))) := by
  have ml : (mkS p).length < 900000 := by rw [len_mkS]; omega
  rcases cut_L m false n p hv hH hp with ⟨c1, ns2, c2, c3⟩ | ⟨q, c1, c2⟩ | ⟨e, e0, c1, c2⟩
  · have ms := c2.msg (r := []) (.inl rfl)
    rw [List.append_nil] at ms
    have ms' : pMsg (n + 1) false p = .ok ns2 [] := (msg_eq n false p).trans ms
    obtain ⟨o1, o2, o3⟩ := lOk_pre c3
    have q1 := lW_cutL m
    have q2 := lH_cutL m
    have P := w_parse (n + 1) (mkS p) S ml (fun m2 S h => by
      rw [cps_mkS, ms'] at h
      injection h with h _
      subst h
      exact (plain_both _).2 ns2 S (o1 (lOk_cutL m false hv ho)) (by omega) (by omega) (by omega))
    have pe : pParse (n + 1) (mkS p).cps.toList = .ok (plA [] ns2) [] := by
      rw [cps_mkS]
      unfold pParse
      rw [ms', PR.bind_ok, if_pos rfl]
    rw [pe] at P
    obtain ⟨pp, b, P⟩ := P
    exact .inl ⟨_, _, c1 0, P⟩
  · obtain ⟨d', s0⟩ := c1 0
    have kq := scan_le p.length p 0 d' q (Nat.le_refl _) s0
    have ms' : pMsg (n + 1) false p = .tok q := (msg_eq n false p).trans (c2 _ _ (Nat.le_refl _))
    obtain ⟨pp, b, P⟩ := parse_tok (n := n + 1) (k := q) (t := mkS p) S ml (.inl (by rw [cps_mkS]; exact ms'))
    rw [len_mkS] at P
    exact .inr (.inl ⟨d', q, _, kq, s0, P⟩)
  · rcases c2 _ [] (Nat.le_refl _) with ms | ⟨q, q8, ms⟩
    · have ms' : pMsg (n + 1) false p = .fin := (msg_eq n false p).trans ms
      obtain ⟨pp, b, P⟩ := parse_fin (n := n + 1) (t := mkS p) S ml (by rw [cps_mkS]; exact ms')
      exact .inr (.inr ⟨e, _, e0, c1 0, .inl P⟩)
    · have ms' : pMsg (n + 1) false p = .tok q := (msg_eq n false p).trans ms
      obtain ⟨pp, b, P⟩ := parse_tok (n := n + 1) (k := q) (t := mkS p) S ml (.inl (by rw [cps_mkS]; exact ms'))
      rw [len_mkS] at P
      exact .inr (.inr ⟨e, _, e0, c1 0, .inr ⟨q, q8, P⟩⟩)
theorem law_step (ns : List Int) (m : List Nd) (x4 : D) (S : List D) (hS : Bx S) (hv : vL false m) (ho : lOk m = true) (hH : lH m ≤ 10) (hW : lW m ≤ 800000) :
    ∃ y5 y6 y7 y8 S', L_1012_1 (run 59) (gLaw ns (eM m) (.str (mkS (stL m))) (.val x4) .non .non .non .non .non) S = .next (gLaw ns (eM m) (.str (mkS (stL m))) (.val x4) y5 y6 y7 y8 .non) S' ∧ Bx S' := by
  obtain ⟨r, S1, h1, hS1, r0, r1⟩ := run_draw 58 900 (by decide) S hS
  replace h1 : run 59 1002 [.ptr 0, .int 900] S = _ := h1
  have wl := stL_len m false hv
  generalize hw : stL m = w at *
  have lw : dLen (.str (mkS w)) = some (.int w.length) := by rw [dLen_s (by rw [len_mkS]; exact Nat.le_trans (show w.length ≤ 1000000 by omega) (by decide)), len_mkS]
  have kp : (0 : Int) < (w.length : Int) + 1 := by omega
  obtain ⟨k, hk⟩ : ∃ k : Nat, r % ((w.length : Int) + 1) = (k : Int) := ⟨(r % ((w.length : Int) + 1)).toNat, (Int.toNat_of_nonneg (Int.emod_nonneg _ (by omega))).symm⟩
  have kl : k ≤ w.length := by have := Int.emod_lt_of_pos r kp; omega
  have dc : dCut (.str (mkS w)) none (some (k : Int)) = some (.str (mkS (w.take k))) := by rw [dCut_s (by rw [len_mkS]; exact Nat.le_trans (show w.length ≤ 1000000 by omega) (by decide)), cutTo w k kl]
  have T := told 12 (p := w.take k) S1 hv ho (by omega) ⟨by omega, by omega⟩ hW (by rw [hw]; exact List.take_prefix _ _) (by rw [List.length_take]; omega)
  have pl : (w.take k).length ≤ 800000 := by rw [List.length_take]; omega
  generalize w.take k = p at *
  obtain ⟨st, h2, h3⟩ := run_open 58 p (by omega) S1
  replace h2 : run 59 1011 [.str (mkS p)] S1 = _ := h2
  have lp : dLen (.str (mkS p)) = some (.int p.length) := by rw [dLen_s (by rw [len_mkS]; exact Nat.le_trans (show p.length ≤ 1000000 by omega) (by decide)), len_mkS]
  have f1 : fx_MessagewaysError 1 = some true := rfl
  have f2 : fx_MessagewaysError 2 = some true := rfl
  have f3 : fx_TokenError 1 = some true := rfl
  have f4 : fx_TokenError 2 = some false := rfl
  have f5 : fx_EndError 1 = some false := rfl
  have f6 : fx_EndError 2 = some true := rfl
  have g1 : gx_place 1 = true := rfl
  rw [e_L_1012_1]
  rcases T with ⟨d2, R, s0, P⟩ | ⟨d', q, R, kq, s0, P⟩ | ⟨e, R, e0, s0, P⟩
  · replace P : run 59 70 [.str (mkS p)] S1 = _ := P
    rw [s0] at h2 h3
    simp only at h3
    subst h3
    refine ⟨.val (.str (mkS p)), .val (.int 0), .val (.int (-1)), .val (.str "read"), _, ?_, hS1.app (R := R)⟩
    unfold gLaw
    generalize eM m = dm at *
    have rr : (("read" : Str) == "read") = true := by decide +kernel
    simp [h1, lw, kp, hk, dc, h2, P, rr]
  · replace P : run 59 70 [.str (mkS p)] S1 = _ := P
    rw [s0] at h2 h3
    simp only at h3
    subst h3
    rw [tokX, show ((p.length - q : Nat) : Int) = (p.length : Int) - q by omega] at P
    have sp : (0 : Int) ≤ (p.length : Int) - q := by omega
    refine ⟨.val (.str (mkS p)), .val (.int d'), .val (.int ((p.length : Int) - q)), .val (.int ((p.length : Int) - q)), _, ?_, hS1.app (R := R)⟩
    unfold gLaw
    generalize eM m = dm at *
    generalize (p.length : Int) - q = st at *
    simp [h1, lw, kp, hk, dc, h2, P, f1, f3, f5, g1, sp, noX, isX, unx, unxD, setxD]
  · rw [s0] at h2 h3
    simp only at h3
    subst h3
    have ep : (0 : Int) < (0 : Int) + e := by omega
    have e1 : ¬ ((0 : Int) + e = 0) := by omega
    rcases P with P | ⟨q, q8, P⟩
    · replace P : run 59 70 [.str (mkS p)] S1 = _ := P
      rw [finX] at P
      have ee : (("end" : Str) == "end") = true := by decide +kernel
      refine ⟨.val (.str (mkS p)), .val (.int (0 + e)), .val (.int (-1)), .val (.str "end"), _, ?_, hS1.app (R := R)⟩
      unfold gLaw
      generalize eM m = dm at *
      generalize (0 : Int) + e = ei at *
      simp [h1, lw, kp, hk, dc, h2, P, f2, f4, f6, ep, e1, ee, noX, isX, unx, unxD, setxD]
    · replace P : run 59 70 [.str (mkS p)] S1 = _ := P
      rw [tokX] at P
      have sp : ¬ ((p.length - q : Nat) : Int) < (p.length : Int) - 8 := by omega
      have nn := ne_si "end" ((p.length - q : Nat) : Int) end_ok
      have ii := isi_ii ((p.length - q : Nat) : Int)
      refine ⟨.val (.str (mkS p)), .val (.int (0 + e)), .val (.int (-1)), .val (.int ((p.length - q : Nat) : Int)), _, ?_, hS1.app (R := R)⟩
      unfold gLaw
      generalize eM m = dm at *
      generalize (0 : Int) + e = ei at *
      generalize ((p.length - q : Nat) : Int) = ti at *
      simp [h1, lw, kp, hk, dc, h2, P, f1, f3, f5, g1, ep, e1, nn, ii, lp, sp, noX, isX, unx, unxD, setxD]
theorem law_true : ∀ ns : List Int, ns.length ≤ 63 → ∃ S, run 60 1012 [.scr ns] [] = .ok (.bl true) S := fun ns _ => by
  obtain ⟨ds, h1, hl⟩ := run_digits 57 ns
  replace h1 : run 59 1001 [.scr ns, .int 0, .int 63] [] = _ := h1
  have hB : Bx [box ds 0] := ⟨ds, 0, [], rfl⟩
  obtain ⟨m, S1, h2, hS1, gm⟩ := mkM 2 59 (by decide) false [box ds 0] hB
  rw [wM2] at gm
  have hv := wf_vL m false gm.wf
  have hw := gm.w
  have hh := gm.h
  obtain ⟨w, S2, h3, hS2, q3, l3, z3⟩ := run_written 59 m false hv (by omega) (by omega) false S1 hS1
  obtain ⟨rfl, rfl⟩ := z3 rfl
  have lp := forD_wp (p := .nm 4) (kl := [4, 5, 6, 7, 8, 9]) (β := L_1012_1 (run 59)) (R := fun _ _ => False) (N := fun Γ S => Γ = gLaw ns (eM m) (.str (mkS (stL m))) .non .non .non .non .non .non ∧ Bx S)
    (fun j Γ S => Γ = gLaw ns (eM m) (.str (mkS (stL m))) .non .non .non .non .non .non ∧ Bx S) (rangeD 0 6) 0 (gLaw ns (eM m) (.str (mkS (stL m))) .non .non .non .non .non .non) S2 ⟨rfl, hS2⟩
    (fun j x Γ S hx ⟨hΓ, hS⟩ => by
      subst hΓ
      refine ⟨_, x_bnm, ?_⟩
      have bd : (gLaw ns (eM m) (.str (mkS (stL m))) .non .non .non .non .non .non).set 4 (.val x) = gLaw ns (eM m) (.str (mkS (stL m))) (.val x) .non .non .non .non .non := rfl
      rw [bd]
      obtain ⟨y5, y6, y7, y8, S', e, hS'⟩ := law_step ns m x S hS hv gm.ok (by omega) (by omega)
      rw [e]
      exact ⟨rfl, hS'⟩)
    (fun Γ S h => h)
  revert lp
  generalize hf : forD (.nm 4) [4, 5, 6, 7, 8, 9] (L_1012_1 (run 59)) (rangeD 0 6) (gLaw ns (eM m) (.str (mkS (stL m))) .non .non .non .non .non .non) S2 = o
  intro lp
  replace h2 : run 59 1006 [.ptr 0, .int 2, .bl false] [.lst [.lst (ds.map .int), .int 0]] = .ok (eM m) S2 := h2
  cases o with
  | next Γ S3 =>
    obtain ⟨rfl, hS3⟩ := lp
    refine ⟨S3, ?_⟩
    unfold gLaw at hf
    have i6 : inR 6 = true := inR_of (by decide)
    rw [show (60 : Nat) = 59 + 1 from rfl, run_1012]
    generalize eM m = dm at *
    simp [B_1012, h1, h2, h3, i6, hf]
  | _ => exact lp.elim

end
end PV
open PySem PySem.W PyProof.Rows
set_option maxRecDepth 100000 in
set_option maxHeartbeats 0 in
theorem PySem.Challenge.cw_messageways_k04_notations_that_end_too_e_holds : PySem.Challenge.rw_messageways_k04_notations_that_end_too_e.Holds := by
  w_on; o_law; k_head; (case hw => w_witness2)
  k_fill
  refine DL.law_headG (l := PySem.Challenge.rw_messageways_k04_notations_that_end_too_e) (k := 120) (x := "_law_script") rfl rfl ⟨⟨rfl, by decide, by decide⟩, rfl⟩ (fun w h Y => PySem.W.kIn_of Y) ?F
  case F =>
    intro w mg fa h KX G hmg
    refine' PV.all_mk KX G hmg ?a1 ?l1 ?c1 ?k1 ?a2 ?l2 ?c2 ?k2 ?a4 ?l4 ?c4 ?k4 ?a5 ?l5 ?c5 ?k5 ?a50 ?l50 ?c50 ?k50 ?a55 ?l55 ?c55 ?k55 ?a56 ?l56 ?c56 ?k56 ?i56 ?a57 ?l57 ?c57 ?k57 ?i57 ?a58 ?l58 ?c58 ?k58 ?i58 ?a59 ?l59 ?c59 ?k59 ?i59 ?a60 ?l60 ?c60 ?k60 ?i60 ?a61 ?l61 ?c61 ?k61 ?i61 ?a62 ?l62 ?c62 ?k62 ?i62 ?a63 ?l63 ?c63 ?k63 ?i63 ?a64 ?l64 ?c64 ?k64 ?i64 ?a65 ?l65 ?c65 ?k65 ?i65 ?a66 ?l66 ?c66 ?k66 ?i66 ?a67 ?l67 ?c67 ?k67 ?i67 ?a68 ?l68 ?c68 ?k68 ?i68 ?a69 ?l69 ?c69 ?k69 ?i69 ?a70 ?l70 ?c70 ?k70 ?a1000 ?l1000 ?c1000 ?k1000 ?a1001 ?l1001 ?c1001 ?k1001 ?a1002 ?l1002 ?c1002 ?k1002 ?a1003 ?l1003 ?c1003 ?k1003 ?a1004 ?l1004 ?c1004 ?k1004 ?a1005 ?l1005 ?c1005 ?k1005 ?a1006 ?l1006 ?c1006 ?k1006 ?a1007 ?l1007 ?c1007 ?k1007 ?a1008 ?l1008 ?c1008 ?k1008 ?a1009 ?l1009 ?c1009 ?k1009 ?a1010 ?l1010 ?c1010 ?k1010 ?a1011 ?l1011 ?c1011 ?k1011 ?a1012 ?l1012 ?c1012 ?k1012 ?a_Reader ?pg_Reader ?hd_Reader ?po_Reader ?sa_Reader ?mk_Reader ?kp_Reader ?na_Reader_inside ?na_Reader_place ?na_Reader_text ?a_MessagewaysError ?a_TokenError ?a_EndError ?cl_TokenError ?rv_TokenError ?iC_TokenError ?fn_TokenError ?cod_TokenError ?bd_TokenError ?cell_TokenError ?code_TokenError ?v2_TokenError ?file_TokenError ?tx_TokenError ?sa_TokenError ?no_TokenError ?tC_TokenError ?kC_TokenError ?ex_TokenError ?ve_TokenError ?ty_TokenError ?su_TokenError ?mc_TokenError ?ic_TokenError ?hg_TokenError ?hk_TokenError ?hd_TokenError ?ha_TokenError ?hm_TokenError ?q_EndError ?kC_EndError ?ex_EndError ?ty_EndError ?hg_EndError ?hk_EndError ?hd_EndError ?ha_EndError ?hm_EndError ?thp ?tops ?hn ?ht ?xb_EndError ?xt_EndError ?xd_EndError ?xs_EndError_TokenError ?xk_EndError_TokenError ?xs_EndError_EndError ?xk_EndError_EndError ?xb_MessagewaysError ?xt_MessagewaysError ?xd_MessagewaysError ?xs_MessagewaysError_TokenError ?xk_MessagewaysError_TokenError ?xs_MessagewaysError_EndError ?xk_MessagewaysError_EndError ?xb_TokenError ?xt_TokenError ?xd_TokenError ?xs_TokenError_TokenError ?xk_TokenError_TokenError ?xs_TokenError_EndError ?xk_TokenError_EndError ?z_int ?z_isinstance ?z_len ?z_range ?z_str ?z_super ?q_TEXT ?q_SHOW ?q_NUMBER ?q_SELECT ?q_PLURAL ?q_OTHER ?q_CATEGORIES ?r_CATEGORIES ?q_CHOICES ?r_CHOICES ?q_LETTERS ?q_FIGURES ?q_NAME_MOST ?q_OFFSET_MOST ?q_EXACT_MOST ?q_QUOTE ?q_ESCAPED ?q_SPACES ?q_OFFSET PV.law_true
    (case a1 => k_is)
    (case l1 => k_is)
    (case c1 => k_is)
    (case k1 => k_is)
    (case a2 => k_is)
    (case l2 => k_is)
    (case c2 => k_is)
    (case k2 => k_is)
    (case a4 => k_is)
    (case l4 => k_is)
    (case c4 => k_is)
    (case k4 => k_is)
    (case a5 => k_is)
    (case l5 => k_is)
    (case c5 => k_is)
    (case k5 => k_is)
    (case a50 => k_is)
    (case l50 => k_is)
    (case c50 => k_is)
    (case k50 => k_is)
    (case a55 => k_is)
    (case l55 => k_is)
    (case c55 => k_is)
    (case k55 => k_is)
    (case a56 => k_is)
    (case l56 => k_is)
    (case c56 => k_is)
    (case k56 => k_is)
    (case i56 => k_is)
    (case a57 => k_is)
    (case l57 => k_is)
    (case c57 => k_is)
    (case k57 => k_is)
    (case i57 => k_is)
    (case a58 => k_is)
    (case l58 => k_is)
    (case c58 => k_is)
    (case k58 => k_is)
    (case i58 => k_is)
    (case a59 => k_is)
    (case l59 => k_is)
    (case c59 => k_is)
    (case k59 => k_is)
    (case i59 => k_is)
    (case a60 => k_is)
    (case l60 => k_is)
    (case c60 => k_is)
    (case k60 => k_is)
    (case i60 => k_is)
    (case a61 => k_is)
    (case l61 => k_is)
    (case c61 => k_is)
    (case k61 => k_is)
    (case i61 => k_is)
    (case a62 => k_is)
    (case l62 => k_is)
    (case c62 => k_is)
    (case k62 => k_is)
    (case i62 => k_is)
    (case a63 => k_is)
    (case l63 => k_is)
    (case c63 => k_is)
    (case k63 => k_is)
    (case i63 => k_is)
    (case a64 => k_is)
    (case l64 => k_is)
    (case c64 => k_is)
    (case k64 => k_is)
    (case i64 => k_is)
    (case a65 => k_is)
    (case l65 => k_is)
    (case c65 => k_is)
    (case k65 => k_is)
    (case i65 => k_is)
    (case a66 => k_is)
    (case l66 => k_is)
    (case c66 => k_is)
    (case k66 => k_is)
    (case i66 => k_is)
    (case a67 => k_is)
    (case l67 => k_is)
    (case c67 => k_is)
    (case k67 => k_is)
    (case i67 => k_is)
    (case a68 => k_is)
    (case l68 => k_is)
    (case c68 => k_is)
    (case k68 => k_is)
    (case i68 => k_is)
    (case a69 => k_is)
    (case l69 => k_is)
    (case c69 => k_is)
    (case k69 => k_is)
    (case i69 => k_is)
    (case a70 => k_is)
    (case l70 => k_is)
    (case c70 => k_is)
    (case k70 => k_is)
    (case a1000 => k_is)
    (case l1000 => k_is)
    (case c1000 => k_is)
    (case k1000 => k_is)
    (case a1001 => k_is)
    (case l1001 => k_is)
    (case c1001 => k_is)
    (case k1001 => k_is)
    (case a1002 => k_is)
    (case l1002 => k_is)
    (case c1002 => k_is)
    (case k1002 => k_is)
    (case a1003 => k_is)
    (case l1003 => k_is)
    (case c1003 => k_is)
    (case k1003 => k_is)
    (case a1004 => k_is)
    (case l1004 => k_is)
    (case c1004 => k_is)
    (case k1004 => k_is)
    (case a1005 => k_is)
    (case l1005 => k_is)
    (case c1005 => k_is)
    (case k1005 => k_is)
    (case a1006 => k_is)
    (case l1006 => k_is)
    (case c1006 => k_is)
    (case k1006 => k_is)
    (case a1007 => k_is)
    (case l1007 => k_is)
    (case c1007 => k_is)
    (case k1007 => k_is)
    (case a1008 => k_is)
    (case l1008 => k_is)
    (case c1008 => k_is)
    (case k1008 => k_is)
    (case a1009 => k_is)
    (case l1009 => k_is)
    (case c1009 => k_is)
    (case k1009 => k_is)
    (case a1010 => k_is)
    (case l1010 => k_is)
    (case c1010 => k_is)
    (case k1010 => k_is)
    (case a1011 => k_is)
    (case l1011 => k_is)
    (case c1011 => k_is)
    (case k1011 => k_is)
    (case a1012 => k_is)
    (case l1012 => k_is)
    (case c1012 => k_is)
    (case k1012 => k_is)
    (case a_Reader => k_is)
    (case pg_Reader => k_is)
    (case hd_Reader => k_is)
    (case po_Reader => k_is)
    (case sa_Reader => k_is)
    (case mk_Reader => k_is)
    (case kp_Reader => k_is)
    (case na_Reader_inside => k_is)
    (case na_Reader_place => k_is)
    (case na_Reader_text => k_is)
    (case a_MessagewaysError => k_is)
    (case a_TokenError => k_is)
    (case a_EndError => k_is)
    (case cl_TokenError => k_is)
    (case rv_TokenError => first | rfl | decide +kernel)
    (case iC_TokenError => k_is)
    (case fn_TokenError => k_is)
    (case cod_TokenError => k_is)
    (case bd_TokenError => exact fun _ _ _ => BindsTo.of_eq rfl)
    (case cell_TokenError => k_is)
    (case code_TokenError => k_is)
    (case v2_TokenError => rfl)
    (case file_TokenError => first | rfl | decide +kernel)
    (case tx_TokenError => exact PV.tx_TokenError)
    (case sa_TokenError => k_is)
    (case no_TokenError => k_is)
    (case tC_TokenError => k_is)
    (case kC_TokenError => k_is)
    (case ex_TokenError => k_is)
    (case ve_TokenError => k_is)
    (case ty_TokenError => k_is)
    (case su_TokenError => ks_is)
    (case mc_TokenError => k_is)
    (case ic_TokenError => k_is)
    (case hg_TokenError => k_is)
    (case hk_TokenError => k_is)
    (case hd_TokenError => k_is)
    (case ha_TokenError => k_is)
    (case hm_TokenError => k_is)
    (case q_EndError => k_exc)
    (case kC_EndError => k_is)
    (case ex_EndError => k_is)
    (case ty_EndError => k_is)
    (case hg_EndError => k_is)
    (case hk_EndError => k_is)
    (case hd_EndError => k_is)
    (case ha_EndError => k_is)
    (case hm_EndError => k_is)
    (case thp => k_is)
    (case tops => first | rfl | decide +kernel)
    (case hn => k_is)
    (case ht => k_is)
    (case xb_EndError => k_is)
    (case xt_EndError => k_is)
    (case xd_EndError => k_is)
    (case xs_EndError_TokenError => first | k_is | rfl)
    (case xk_EndError_TokenError => first | kit_is | k_is | rfl)
    (case xs_EndError_EndError => first | k_is | rfl)
    (case xk_EndError_EndError => first | kit_is | k_is | rfl)
    (case xb_MessagewaysError => k_is)
    (case xt_MessagewaysError => k_is)
    (case xd_MessagewaysError => k_is)
    (case xs_MessagewaysError_TokenError => first | k_is | rfl)
    (case xk_MessagewaysError_TokenError => first | kit_is | k_is | rfl)
    (case xs_MessagewaysError_EndError => first | k_is | rfl)
    (case xk_MessagewaysError_EndError => first | kit_is | k_is | rfl)
    (case xb_TokenError => k_is)
    (case xt_TokenError => k_is)
    (case xd_TokenError => k_is)
    (case xs_TokenError_TokenError => first | k_is | rfl)
    (case xk_TokenError_TokenError => first | kit_is | k_is | rfl)
    (case xs_TokenError_EndError => first | k_is | rfl)
    (case xk_TokenError_EndError => first | kit_is | k_is | rfl)
    (case z_int => k_is)
    (case z_isinstance => k_is)
    (case z_len => k_is)
    (case z_range => k_is)
    (case z_str => k_is)
    (case z_super => k_is)
    (case q_TEXT => k_is)
    (case q_SHOW => k_is)
    (case q_NUMBER => k_is)
    (case q_SELECT => k_is)
    (case q_PLURAL => k_is)
    (case q_OTHER => k_is)
    (case q_CATEGORIES => k_is)
    (case r_CATEGORIES => k_is)
    (case q_CHOICES => k_is)
    (case r_CHOICES => k_is)
    (case q_LETTERS => k_is)
    (case q_FIGURES => k_is)
    (case q_NAME_MOST => k_is)
    (case q_OFFSET_MOST => k_is)
    (case q_EXACT_MOST => k_is)
    (case q_QUOTE => k_is)
    (case q_ESCAPED => k_is)
    (case q_SPACES => k_is)
    (case q_OFFSET => k_is)
