import PyProof.Rows.All
import Wide.All
import OpenK.AllK
import Wide.FinOn
import HandS.ForMost
import HandS.ForExc
import HandS.IsInst
import HandS.Wide
import HandS.Lambda
import HandS.TupAny
import HandS.TupMul
import HandS.Text
import HandS.Steps
import HandS.Iter
import HandS.EndBits
import HandS.RaiseMore
import HandS.Dict
import HandS.More
import HandS.ListItems
import KE.KExcSuper
import HandS.ExcField
import HandS.ExcIs
import HandS.ExcBuiltin
import PyProof.ReprRoads
import KE.KExcIs
import HandS.DictComp
import HandS.Style
import PyProof.StrLawsRepr
import PySem.Challenge.RW_messageways_k51_books
set_option Elab.async false
set_option linter.all false
set_option maxRecDepth 100000
set_option maxHeartbeats 4000000
namespace DL
open PySem L2

/-! ### data -/
inductive D where
  | non | bl (b : Bool) | int (i : Int) | str (x : Str)
  | lst (xs : List D) | tup (xs : List D) | dct (ks : List Key) (xs : List D)
  | ins (c : Nat) (ns : List Str) (xs : List D) | ptr (i : Nat) | scr (ns : List Int)

/-- what is fixed: the written part, the classes by number -/
structure Cn where
  K : PySem.W.Frag
  cls : Nat → Addr

mutual
def Rep (C : Cn) (ρ : List Addr) (G : Hp) : D → V → Prop
  | .non, v => v = .non
  | .bl b, v => v = .bl b
  | .int i, v => v = .int i
  | .str x, v => v = .str x
  | .lst xs, v => ∃ a vs, v = .ref a ∧ G a = some (.lst vs) ∧ Reps C ρ G xs vs
  | .tup xs, v => ∃ a vs, v = .ref a ∧ SqT C.K G a vs ∧ Reps C ρ G xs vs
  | .dct ks xs, v => ∃ a vs, v = .ref a ∧ G a = some (.dK (ks.zip vs)) ∧ ks.length = xs.length ∧ Reps C ρ G xs vs
  | .ins c ns xs, v => ∃ a dx vs, v = .ref a ∧ G a = some (.ins (C.cls (c + 3)) dx (ns.zip vs)) ∧ ns.length = xs.length ∧ Reps C ρ G xs vs
  | .ptr i, v => ∃ a, ρ[i]? = some a ∧ v = .ref a
  | .scr ns, v => ∃ a, v = .ref a ∧ SqL C.K G a (ns.map V.int)
def Reps (C : Cn) (ρ : List Addr) (G : Hp) : List D → List V → Prop
  | [], vs => vs = []
  | x :: xs, vs => ∃ v r, vs = v :: r ∧ Rep C ρ G x v ∧ Reps C ρ G xs r
end

section
variable {C : Cn} {ρ ρ' : List Addr} {G G' H H' : Hp}

def Sub (G G' : Hp) : Prop := ∀ a o, G a = some o → G' a = some o
theorem Sub.refl : Sub G G := fun _ _ h => h
theorem Sub.trans {G1 G2 G3 : Hp} (a : Sub G1 G2) (b : Sub G2 G3) : Sub G1 G3 := fun x o h => b x o (a x o h)
theorem Sub.sqT {K : PySem.W.Frag} {a : Addr} {xs : List V} (e : Sub G G') (h : SqT K G a xs) : SqT K G' a xs := by
  rcases h with (h | ⟨o, h⟩) | h
  · exact .inl (.inl (e _ _ h))
  · exact .inl (.inr ⟨o, e _ _ h⟩)
  · exact .inr h
theorem Sub.sqL {K : PySem.W.Frag} {a : Addr} {xs : List V} (e : Sub G G') (h : SqL K G a xs) : SqL K G' a xs := by
  rcases h with (h | ⟨o, h⟩) | h
  · exact .inl (.inl (e _ _ h))
  · exact .inl (.inr ⟨o, e _ _ h⟩)
  · exact .inr h

/-- the same object, or a dict that is locked -/
def EqK (o o' : HO) : Prop := o' = o ∨ ∃ kvs ob, o = .dK kvs ∧ o' = .frz ob (.dK kvs)
/-- the names of the code objects that a table holds, by the table's number -/
def tabName : Nat → Str
  | 1 => "union.<locals>.<lambda>"
  | 2 => "common.<locals>.<lambda>"
  | 3 => "difference.<locals>.<lambda>"
  | 4 => "relation_holds.<locals>.<genexpr>"
  | 5 => "condition_holds.<locals>.<genexpr>"
  | 6 => "condition_holds.<locals>.<genexpr>.<locals>.<genexpr>"
  | 7 => "natural_of.<locals>.<genexpr>"
  | _ => ""
def Tab (C : Cn) (H : Hp) (i : Nat) : Prop := C.cls (i + 1000) ≠ 0 → LamX.TabS H (C.cls (i + 1000)) (tabName i)
def NoTE (o : Option HO) : Prop := (∀ ps, o ≠ some (.tbl ps)) ∧ ∀ f, o ≠ some (.ext f)
theorem Tab.upd {i : Nat} {a : Addr} {o : HO} (t : Tab C H i) (h : NoTE (H a)) : Tab C (upd H a o) i := fun z => by
  obtain ⟨ps, h1, h2, h3⟩ := t z
  refine ⟨ps, by rw [upd_ne (fun y => h.1 ps (by rw [← y]; exact h1))]; exact h1, h2, fun pos cv hc => ?_⟩
  obtain ⟨c, e1, e2⟩ := h3 pos cv hc
  exact ⟨c, e1, by rw [upd_ne (fun y => h.2 _ (by rw [← y]; exact e2))]; exact e2⟩
/-- what is settled stands in the heap; so do the tables of code objects -/
structure SubH (C : Cn) (G H : Hp) : Prop where
  at_ : ∀ a o, G a = some o → ∃ o', H a = some o' ∧ EqK o o'
  tab : ∀ i, Tab C H i
theorem SubH.get (e : SubH C G H) {a : Addr} {o : HO} (h : G a = some o) (n : ∀ kvs, o ≠ .dK kvs) : H a = some o := by
  obtain ⟨o', h1, h2 | ⟨kvs, ob, h2, _⟩⟩ := e.at_ a o h
  · rw [h1, h2]
  · exact absurd h2 (n kvs)
theorem SubH.has (e : SubH C G H) {a : Addr} {o : HO} (h : G a = some o) : ∃ o', H a = some o' := by
  obtain ⟨o', h1, _⟩ := e.at_ a o h
  exact ⟨o', h1⟩
theorem SubH.dk (e : SubH C G H) {a : Addr} {kvs : List (Key × V)} (h : G a = some (.dK kvs)) : Rd H a (.dK kvs) := by
  obtain ⟨o', h1, h2 | ⟨kvs', ob, h2, h3⟩⟩ := e.at_ a _ h
  · exact .inl (by rw [h1, h2])
  · cases h2; exact .inr ⟨ob, by rw [h1, h3]⟩
theorem SubH.gone (e : SubH C G H) {a : Addr} (h : H a = none) : G a = none := by
  cases q : G a with
  | none => rfl
  | some u => obtain ⟨o', h1⟩ := e.has q; rw [h1] at h; cases h
theorem SubH.sqT {K : PySem.W.Frag} {a : Addr} {xs : List V} (e : SubH C G H) (h : SqT K G a xs) : SqT K H a xs := by
  rcases h with (h | ⟨o, h⟩) | h
  · exact .inl (.inl (e.get h fun _ z => nomatch z))
  · exact .inl (.inr ⟨o, e.get h fun _ z => nomatch z⟩)
  · exact .inr h
theorem SubH.sqL {K : PySem.W.Frag} {a : Addr} {xs : List V} (e : SubH C G H) (h : SqL K G a xs) : SqL K H a xs := by
  rcases h with (h | ⟨o, h⟩) | h
  · exact .inl (.inl (e.get h fun _ z => nomatch z))
  · exact .inl (.inr ⟨o, e.get h fun _ z => nomatch z⟩)
  · exact .inr h
theorem SubH.lst {a : Addr} {xs : List V} (e : SubH C G H) (h : G a = some (.lst xs)) : H a = some (.lst xs) := e.get h fun _ z => nomatch z
theorem SubH.back {G0 : Hp} (e : SubH C G H) (s : Sub G0 G) : SubH C G0 H := ⟨fun a o h => e.at_ a o (s a o h), e.tab⟩
theorem SubH.upd {a : Addr} {o : HO} (e : SubH C G H) (hg : G a = none) (h : NoTE (H a)) : SubH C G (L2.upd H a o) := ⟨fun b u q => by rw [upd_ne (ne_of_none q hg)]; exact e.at_ b u q, fun i => (e.tab i).upd h⟩
theorem SubH.put {p : Addr} {o : HO} (e : SubH C G H) (ho : H p = some o) : SubH C (L2.upd G p o) H := ⟨fun a u h => by
  by_cases z : a = p
  · subst z; rw [upd_same] at h; cases h; exact ⟨_, ho, .inl rfl⟩
  · rw [upd_ne z] at h; exact e.at_ a u h, e.tab⟩
theorem noTE_none : NoTE none := ⟨fun _ z => (nomatch z), fun _ z => (nomatch z)⟩
theorem noTE_of {a : Addr} (h : H a = none) : NoTE (H a) := by rw [h]; exact noTE_none
theorem noTE_lst {a : Addr} {xs : List V} (h : H a = some (.lst xs)) : NoTE (H a) := by rw [h]; exact ⟨fun _ z => (nomatch z), fun _ z => (nomatch z)⟩
theorem noTE_dK {a : Addr} {xs : List (Key × V)} (h : H a = some (.dK xs)) : NoTE (H a) := by rw [h]; exact ⟨fun _ z => (nomatch z), fun _ z => (nomatch z)⟩

mutual
theorem Rep.mono (e : Sub G G') (p : ρ <+: ρ') : ∀ (d : D) (v : V), Rep C ρ G d v → Rep C ρ' G' d v
  | .non, _, h => by rw [Rep] at h ⊢; exact h
  | .bl _, _, h => by rw [Rep] at h ⊢; exact h
  | .int _, _, h => by rw [Rep] at h ⊢; exact h
  | .str _, _, h => by rw [Rep] at h ⊢; exact h
  | .lst xs, _, h => by
    rw [Rep] at h ⊢
    obtain ⟨a, vs, rfl, h1, h2⟩ := h
    exact ⟨a, vs, rfl, e _ _ h1, Reps.mono e p xs vs h2⟩
  | .tup xs, _, h => by
    rw [Rep] at h ⊢
    obtain ⟨a, vs, rfl, h1, h2⟩ := h
    exact ⟨a, vs, rfl, e.sqT h1, Reps.mono e p xs vs h2⟩
  | .dct ks xs, _, h => by
    rw [Rep] at h ⊢
    obtain ⟨a, vs, rfl, h1, h3, h2⟩ := h
    exact ⟨a, vs, rfl, e _ _ h1, h3, Reps.mono e p xs vs h2⟩
  | .ins c ns xs, _, h => by
    rw [Rep] at h ⊢
    obtain ⟨a, dx, vs, rfl, h1, h3, h2⟩ := h
    exact ⟨a, dx, vs, rfl, e _ _ h1, h3, Reps.mono e p xs vs h2⟩
  | .ptr i, _, h => by
    rw [Rep] at h ⊢
    obtain ⟨a, h1, rfl⟩ := h
    obtain ⟨t, rfl⟩ := p
    exact ⟨a, by rw [List.getElem?_append_left (List.getElem?_eq_some_iff.mp h1).1]; exact h1, rfl⟩
  | .scr ns, _, h => by
    rw [Rep] at h ⊢
    obtain ⟨a, rfl, h1⟩ := h
    exact ⟨a, rfl, e.sqL h1⟩
theorem Reps.mono (e : Sub G G') (p : ρ <+: ρ') : ∀ (ds : List D) (vs : List V), Reps C ρ G ds vs → Reps C ρ' G' ds vs
  | [], _, h => by rw [Reps] at h ⊢; exact h
  | x :: xs, _, h => by
    rw [Reps] at h ⊢
    obtain ⟨v, r, rfl, h1, h2⟩ := h
    exact ⟨v, r, rfl, Rep.mono e p x v h1, Reps.mono e p xs r h2⟩
end

theorem Reps.nil : Reps C ρ G [] [] := by rw [Reps]
theorem Reps.cons {x : D} {xs : List D} {v : V} {vs : List V} (h : Rep C ρ G x v) (t : Reps C ρ G xs vs) : Reps C ρ G (x :: xs) (v :: vs) := by rw [Reps]; exact ⟨v, vs, rfl, h, t⟩
theorem Reps.inv {x : D} {xs : List D} {vs : List V} (h : Reps C ρ G (x :: xs) vs) : ∃ v r, vs = v :: r ∧ Rep C ρ G x v ∧ Reps C ρ G xs r := by rw [Reps] at h; exact h
theorem Reps.inv0 {vs : List V} (h : Reps C ρ G [] vs) : vs = [] := by rw [Reps] at h; exact h
theorem Reps.length : ∀ {ds : List D} {vs : List V}, Reps C ρ G ds vs → ds.length = vs.length
  | [], _, h => by rw [h.inv0]; rfl
  | x :: xs, _, h => by
    obtain ⟨v, r, rfl, _, h2⟩ := h.inv
    rw [List.length_cons, List.length_cons, Reps.length h2]
theorem Reps.get : ∀ {ds : List D} {vs : List V} {i : Nat} {d : D}, Reps C ρ G ds vs → ds[i]? = some d → ∃ v, vs[i]? = some v ∧ Rep C ρ G d v
  | [], _, _, _, _, e => by simp at e
  | x :: xs, _, 0, d, h, e => by
    obtain ⟨v, r, rfl, h1, h2⟩ := h.inv
    simp at e; subst e
    exact ⟨v, rfl, h1⟩
  | x :: xs, _, i + 1, d, h, e => by
    obtain ⟨v, r, rfl, h1, h2⟩ := h.inv
    simpa using Reps.get (i := i) h2 (by simpa using e)
theorem Reps.get' : ∀ {ds : List D} {vs : List V} {i : Nat} {v : V}, Reps C ρ G ds vs → vs[i]? = some v → ∃ d, ds[i]? = some d ∧ Rep C ρ G d v
  | [], _, _, _, h, e => by rw [h.inv0] at e; simp at e
  | x :: xs, _, 0, d, h, e => by
    obtain ⟨v, r, rfl, h1, h2⟩ := h.inv
    simp at e; subst e
    exact ⟨x, rfl, h1⟩
  | x :: xs, _, i + 1, d, h, e => by
    obtain ⟨v, r, rfl, h1, h2⟩ := h.inv
    simpa using Reps.get' (i := i) h2 (by simpa using e)
theorem Reps.append : ∀ {ds es : List D} {vs ws : List V}, Reps C ρ G ds vs → Reps C ρ G es ws → Reps C ρ G (ds ++ es) (vs ++ ws)
  | [], _, _, _, h, k => by rw [h.inv0]; exact k
  | x :: xs, _, _, _, h, k => by
    obtain ⟨v, r, rfl, h1, h2⟩ := h.inv
    exact .cons h1 (Reps.append h2 k)
theorem Reps.take : ∀ {ds : List D} {vs : List V} (n : Nat), Reps C ρ G ds vs → Reps C ρ G (ds.take n) (vs.take n)
  | _, _, 0, _ => by simpa using Reps.nil
  | [], _, n + 1, h => by rw [h.inv0]; exact Reps.nil
  | x :: xs, _, n + 1, h => by
    obtain ⟨v, r, rfl, h1, h2⟩ := h.inv
    exact .cons h1 (Reps.take n h2)
theorem Reps.drop : ∀ {ds : List D} {vs : List V} (n : Nat), Reps C ρ G ds vs → Reps C ρ G (ds.drop n) (vs.drop n)
  | _, _, 0, h => h
  | [], _, n + 1, h => by rw [h.inv0]; exact Reps.nil
  | x :: xs, _, n + 1, h => by
    obtain ⟨v, r, rfl, h1, h2⟩ := h.inv
    exact Reps.drop n h2
theorem Reps.set {d : D} {v : V} (k : Rep C ρ G d v) : ∀ {ds : List D} {vs : List V} (n : Nat), Reps C ρ G ds vs → Reps C ρ G (ds.set n d) (vs.set n v)
  | [], _, n, h => by rw [h.inv0]; exact Reps.nil
  | x :: xs, _, 0, h => by
    obtain ⟨v, r, rfl, h1, h2⟩ := h.inv
    exact .cons k h2
  | x :: xs, _, n + 1, h => by
    obtain ⟨v, r, rfl, h1, h2⟩ := h.inv
    exact .cons h1 (Reps.set k n h2)
theorem Reps.reverse : ∀ {ds : List D} {vs : List V}, Reps C ρ G ds vs → Reps C ρ G ds.reverse vs.reverse
  | [], _, h => by rw [h.inv0]; exact Reps.nil
  | x :: xs, _, h => by
    obtain ⟨v, r, rfl, h1, h2⟩ := h.inv
    rw [List.reverse_cons, List.reverse_cons]
    exact (Reps.reverse h2).append (.cons h1 .nil)
theorem Reps.rep {ds : List D} {vs : List V} (h : Reps C ρ G ds vs) : ∀ k : Nat, Reps C ρ G (List.replicate k ds).flatten (List.replicate k vs).flatten
  | 0 => .nil
  | k + 1 => by
    rw [List.replicate_succ, List.replicate_succ, List.flatten_cons, List.flatten_cons]
    exact h.append (Reps.rep h k)
theorem Reps.dropLast {ds : List D} {vs : List V} (h : Reps C ρ G ds vs) : Reps C ρ G ds.dropLast vs.dropLast := by
  rw [List.dropLast_eq_take, List.dropLast_eq_take, h.length]; exact h.take _

/-! ### what stands at an address that may change -/
def ObAt (C : Cn) (ρ : List Addr) (G H : Hp) (a : Addr) : D → Prop
  | .lst xs => ∃ vs, H a = some (.lst vs) ∧ Reps C ρ G xs vs
  | .dct ks xs => ∃ vs, H a = some (.dK (ks.zip vs)) ∧ ks.length = xs.length ∧ Reps C ρ G xs vs
  | .ins c ns xs => ∃ dx vs, H a = some (.ins (C.cls (c + 3)) dx (ns.zip vs)) ∧ ns.length = xs.length ∧ Reps C ρ G xs vs
  | _ => False
theorem ObAt.mono {a : Addr} (e : Sub G G') (p : ρ <+: ρ') (k : ∀ o, H a = some o → H' a = some o) : ∀ {d : D}, ObAt C ρ G H a d → ObAt C ρ' G' H' a d
  | .lst xs, ⟨vs, h, r⟩ => ⟨vs, k _ h, Reps.mono e p _ _ r⟩
  | .dct ks xs, ⟨vs, h, l, r⟩ => ⟨vs, k _ h, l, Reps.mono e p _ _ r⟩
  | .ins c ns xs, ⟨dx, vs, h, l, r⟩ => ⟨dx, vs, k _ h, l, Reps.mono e p _ _ r⟩
theorem ObAt.some {a : Addr} : ∀ {d : D}, ObAt C ρ G H a d → ∃ o, H a = some o
  | .lst xs, ⟨vs, h, _⟩ => ⟨_, h⟩
  | .dct ks xs, ⟨vs, h, _⟩ => ⟨_, h⟩
  | .ins c ns xs, ⟨dx, vs, h, _⟩ => ⟨_, h⟩
theorem ObAt.plain {a : Addr} : ∀ {d : D}, ObAt C ρ G H a d → NoTE (H a)
  | .lst xs, ⟨vs, h, _⟩ => by rw [h]; exact ⟨fun _ z => (nomatch z), fun _ z => (nomatch z)⟩
  | .dct ks xs, ⟨vs, h, _⟩ => by rw [h]; exact ⟨fun _ z => (nomatch z), fun _ z => (nomatch z)⟩
  | .ins c ns xs, ⟨dx, vs, h, _⟩ => by rw [h]; exact ⟨fun _ z => (nomatch z), fun _ z => (nomatch z)⟩
/-- an object that changes no more -/
theorem ObAt.rep {a : Addr} : ∀ {d : D}, ObAt C ρ G G a d → Rep C ρ G d (V.ref a)
  | .lst xs, ⟨vs, h, r⟩ => by rw [Rep]; exact ⟨a, vs, rfl, h, r⟩
  | .dct ks xs, ⟨vs, h, l, r⟩ => by rw [Rep]; exact ⟨a, vs, rfl, h, l, r⟩
  | .ins c ns xs, ⟨dx, vs, h, l, r⟩ => by rw [Rep]; exact ⟨a, dx, vs, rfl, h, l, r⟩

/-! ### the slots -/
structure Exn where
  c : Nat
  ns : List Str
  fs : List D
inductive Sl where
  | non | val (d : D) | own (d : D) | xcp (x : Exn)
/-- the exception that is handled: it stands at C.cls 0, its dict, if it has one, at C.cls 1 less one, its class is C.cls 2 -/
def XOk (C : Cn) (ρ : List Addr) (G : Hp) (x : Exn) : Prop := C.cls 2 = C.cls (x.c + 3) ∧ (x.fs = [] → C.cls 1 = 0) ∧ (x.fs ≠ [] → ∃ d vs, C.cls 1 = d + 1 ∧ G d = some (.xd (x.ns.zip vs)) ∧ x.ns.length = x.fs.length ∧ Reps C ρ G x.fs vs)
theorem XOk.mono {x : Exn} (e : Sub G G') (p : ρ <+: ρ') (h : XOk C ρ G x) : XOk C ρ' G' x := ⟨h.1, h.2.1, fun z => by
  obtain ⟨d, vs, q, a, b, c⟩ := h.2.2 z
  exact ⟨d, vs, q, e _ _ a, b, Reps.mono e p _ _ c⟩⟩

structure Mem (C : Cn) (Γ : List Sl) (S : List D) (ρ : List Addr) (G H : Hp) (σ : L2.St) : Prop where
  sub : SubH C G H
  val : ∀ (i : Nat) (d : D), Γ[i]? = some (Sl.val d) → ∃ v, σ[i]? = some (some v) ∧ Rep C ρ G d v
  own : ∀ (i : Nat) (d : D), Γ[i]? = some (Sl.own d) → ∃ a, σ[i]? = some (some (V.ref a)) ∧ ObAt C ρ G H a d ∧ G a = none ∧ a ∉ ρ
  inj : ∀ (i j : Nat) (d d' : D) (a : Addr), Γ[i]? = some (Sl.own d) → Γ[j]? = some (Sl.own d') → σ[i]? = some (some (V.ref a)) → σ[j]? = some (some (V.ref a)) → i = j
  sto : ∀ (i : Nat) (d : D), S[i]? = some d → ∃ a, ρ[i]? = some a ∧ ObAt C ρ G H a d
  stG : ∀ a ∈ ρ, G a = none
  len : ρ.length = S.length
  nd : ρ.Nodup
  wid : Γ.length = σ.length
  xcp : ∀ (i : Nat) (x : Exn), Γ[i]? = some (Sl.xcp x) → σ[i]? = some (some (V.ref (C.cls 0))) ∧ XOk C ρ G x

/-- what an expression does to the memory -/
structure Nx (ρ : List Addr) (G H : Hp) (ρ' : List Addr) (G' H' : Hp) : Prop where
  pre : ρ <+: ρ'
  ext : Sub G G'
  new : ∀ a o, G' a = some o → G a = some o ∨ H a = none
  keep : ∀ a o, (∀ ps, o ≠ .tbl ps) → H a = some o → a ∉ ρ → H' a = some o
  live : ∀ a, H' a = none → H a = none
  fre : ∀ a ∈ ρ', a ∈ ρ ∨ H a = none
theorem Nx.refl : Nx ρ G H ρ G H := ⟨List.prefix_refl _, .refl, fun _ _ h => .inl h, fun _ _ _ h _ => h, fun _ h => h, fun _ h => .inl h⟩
theorem Nx.trans {ρ1 ρ2 ρ3 : List Addr} {G1 G2 G3 H1 H2 H3 : Hp} (x : Nx ρ1 G1 H1 ρ2 G2 H2) (y : Nx ρ2 G2 H2 ρ3 G3 H3) : Nx ρ1 G1 H1 ρ3 G3 H3 where
  pre := x.pre.trans y.pre
  ext := x.ext.trans y.ext
  new := fun a o h => by
    rcases y.new a o h with h | h
    · exact x.new a o h
    · exact .inr (x.live a h)
  keep := fun a o t h n => by
    refine y.keep a o t (x.keep a o t h n) fun m => ?_
    rcases x.fre a m with z | z
    · exact n z
    · rw [h] at z; cases z
  live := fun a h => x.live a (y.live a h)
  fre := fun a m => by
    rcases y.fre a m with z | z
    · exact x.fre a z
    · exact .inr (x.live a z)

/-- the memory alone (a callee's) -/
abbrev MemS (C : Cn) (S : List D) (ρ : List Addr) (G H : Hp) : Prop := Mem C [] S ρ G H []
theorem Mem.toS {Γ : List Sl} {S : List D} {σ : L2.St} (m : Mem C Γ S ρ G H σ) : MemS C S ρ G H :=
  ⟨m.sub, fun i d h => by simp at h, fun i d h => by simp at h, fun i j d d' a h => by simp at h, m.sto, m.stG, m.len, m.nd, rfl, fun i x h => by simp at h⟩
/-- behind a step that knows nothing of the slots -/
theorem Mem.step {Γ : List Sl} {S S' : List D} {σ : L2.St} (m : Mem C Γ S ρ G H σ) (n : Nx ρ G H ρ' G' H') (m' : MemS C S' ρ' G' H') : Mem C Γ S' ρ' G' H' σ where
  sub := m'.sub
  val := fun i d h => by
    obtain ⟨v, e, r⟩ := m.val i d h
    exact ⟨v, e, r.mono n.ext n.pre⟩
  own := fun i d h => by
    obtain ⟨a, e, r, g, p⟩ := m.own i d h
    obtain ⟨o, ho⟩ := r.some
    refine ⟨a, e, r.mono n.ext n.pre fun o q => n.keep a o (fun ps z => r.plain.1 ps (by rw [q, z])) q p, ?_, fun z => ?_⟩
    · cases q : G' a with
      | none => rfl
      | some o' =>
        rcases n.new a o' q with z | z
        · rw [g] at z; cases z
        · rw [ho] at z; cases z
    · rcases n.fre a z with z | z
      · exact p z
      · rw [ho] at z; cases z
  inj := m.inj
  sto := m'.sto
  stG := m'.stG
  len := m'.len
  nd := m'.nd
  wid := m.wid
  xcp := fun i x h => ⟨(m.xcp i x h).1, (m.xcp i x h).2.mono n.ext n.pre⟩

/-! ### results -/
inductive Res (α : Type) where
  | ok (a : α) (S : List D)
  | exc (e : Exn) (S : List D)
  | stuck
def Res.bind {α β : Type} (r : Res α) (f : α → List D → Res β) : Res β := match r with
  | .ok a S => f a S
  | .exc e S => .exc e S
  | .stuck => .stuck
@[simp] theorem Res.bind_ok {α β : Type} (a : α) (S : List D) (f : α → List D → Res β) : (Res.ok a S).bind f = f a S := Eq.trans rfl rfl
@[simp] theorem Res.bind_exc {α β : Type} (e : Exn) (S : List D) (f : α → List D → Res β) : (Res.exc e S : Res α).bind f = .exc e S := Eq.trans rfl rfl
@[simp] theorem Res.bind_stuck {α β : Type} (f : α → List D → Res β) : (Res.stuck : Res α).bind f = .stuck := Eq.trans rfl rfl

abbrev De := List Sl → List D → Res D
abbrev Da := List Sl → List D → Res (List D)
abbrev Dt := List Sl → List D → Res Bool
inductive Out where
  | next (Γ : List Sl) (S : List D) | ret (d : D) (S : List D) | brk (Γ : List Sl) (S : List D) | cont (Γ : List Sl) (S : List D) | exc (e : Exn) (Γ : List Sl) (S : List D) | stuck
abbrev Ds := List Sl → List D → Out

/-- an exception as it lies -/
def ExRep (C : Cn) (ρ : List Addr) (G H : Hp) (e : Exn) (cls : Value) (dx : Option Addr) : Prop :=
  cls = .ref (C.cls (e.c + 3)) ∧ (e.fs = [] → dx = none) ∧ (e.fs ≠ [] → ∃ d vs, dx = some d ∧ G d = some (.xd (e.ns.zip vs)) ∧ e.ns.length = e.fs.length ∧ Reps C ρ G e.fs vs)

/-- what is wanted behind an evaluation (RV: how the value lies) -/
abbrev RVT (α β : Type) := Hp → List Addr → Hp → Hp → α → β → Prop
def Post (C : Cn) (W : WX) {α β : Type} (RV : RVT α β) (Γ : List Sl) (ρ : List Addr) (G H : Hp) (σ : L2.St) (r : Res α) (Q : β → Hp → Prop) : Prop := match r with
  | .ok d S' => ∀ v ρ' G' H', Mem C Γ S' ρ' G' H' σ → Nx ρ G H ρ' G' H' → RV H ρ' G' H' d v → Q v H'
  | .exc e S' => ∀ cls dx ρ' G' H', Mem C Γ S' ρ' G' H' σ → Nx ρ G H ρ' G' H' → ExRep C ρ' G' H' e cls dx → W cls dx σ H'
  | .stuck => False
/-- settled -/
def RS (C : Cn) : RVT D V := fun _ ρ G _ d v => Rep C ρ G d v
/-- readable: settled, or an object of a slot's own -/
def RO (C : Cn) : RVT D V := fun _ ρ G H d v => Rep C ρ G d v ∨ ∃ a, v = V.ref a ∧ a ∉ ρ ∧ ObAt C ρ G H a d
/-- new -/
def RF (C : Cn) : RVT D V := fun H0 ρ G H d v => ∃ a, v = V.ref a ∧ a ∉ ρ ∧ H0 a = none ∧ G a = none ∧ ObAt C ρ G H a d
def RB : RVT Bool Bool := fun _ _ _ _ b c => b = c
def RA (C : Cn) : RVT (List D) (List V) := fun _ ρ G _ ds vs => Reps C ρ G ds vs
/-- the start may lie further back -/
def Back {α β : Type} (RV : RVT α β) : Prop := ∀ (H0 H1 : Hp) ρ G H d v, (∀ a, H1 a = none → H0 a = none) → RV H1 ρ G H d v → RV H0 ρ G H d v
theorem back_RS : Back (RS C) := fun _ _ _ _ _ _ _ _ h => h
theorem back_RO : Back (RO C) := fun _ _ _ _ _ _ _ _ h => h
theorem back_RF : Back (RF C) := fun _ _ _ _ _ _ _ k ⟨a, e, n, z, r⟩ => ⟨a, e, n, k a z, r⟩
theorem back_RB : Back RB := fun _ _ _ _ _ _ _ _ h => h
theorem back_RA : Back (RA C) := fun _ _ _ _ _ _ _ _ h => h

section
variable {W : WX} {α β γ δ : Type} {RV : RVT α β} {RV2 : RVT γ δ} {Γ : List Sl} {S : List D} {σ : L2.St}
theorem Post.mono {r : Res α} {Q Q' : β → Hp → Prop} (h : Post C W RV Γ ρ G H σ r Q) (q : ∀ v H', Q v H' → Q' v H') : Post C W RV Γ ρ G H σ r Q' := by
  cases r with
  | ok d S => exact fun v ρ' G' H' a b c => q _ _ (h v ρ' G' H' a b c)
  | exc e S => exact h
  | stuck => exact h
theorem Post.conv {RV' : RVT α β} {r : Res α} {Q : β → Hp → Prop} (h : Post C W RV' Γ ρ G H σ r Q) (c : ∀ ρ' G' H' d v, RV H ρ' G' H' d v → RV' H ρ' G' H' d v) : Post C W RV Γ ρ G H σ r Q := by
  cases r with
  | ok d S => exact fun v ρ' G' H' a b z => h v ρ' G' H' a b (c _ _ _ _ _ z)
  | exc e S => exact h
  | stuck => exact h
theorem Post.shift (bk : Back RV) {r : Res α} {Q : β → Hp → Prop} (h : Post C W RV Γ ρ G H σ r Q) {ρ1 : List Addr} {G1 H1 : Hp} (n : Nx ρ G H ρ1 G1 H1) : Post C W RV Γ ρ1 G1 H1 σ r Q := by
  cases r with
  | ok d S => exact fun v ρ' G' H' a b c => h v ρ' G' H' a (n.trans b) (bk _ _ _ _ _ _ _ n.live c)
  | exc e S => exact fun cls dx ρ' G' H' a b c => h cls dx ρ' G' H' a (n.trans b) c
  | stuck => exact h
/-- one evaluation ahead of another -/
theorem Post.seq (bk : Back RV2) {r : Res α} {f : α → List D → Res γ} {Q : δ → Hp → Prop} (h : Post C W RV2 Γ ρ G H σ (r.bind f) Q) :
    Post C W RV Γ ρ G H σ r (fun v H1 => ∃ d S1 ρ1 G1, Mem C Γ S1 ρ1 G1 H1 σ ∧ Nx ρ G H ρ1 G1 H1 ∧ RV H ρ1 G1 H1 d v ∧ Post C W RV2 Γ ρ1 G1 H1 σ (f d S1) Q) := by
  cases r with
  | ok d S => exact fun v ρ1 G1 H1 m n c => ⟨d, S, ρ1, G1, m, n, c, Post.shift bk h n⟩
  | exc e S => exact h
  | stuck => exact h
/-- an evaluation's end -/
theorem Post.here {d : α} {v : β} {Q : β → Hp → Prop} (h : Post C W RV Γ ρ G H σ (.ok d S) Q) {ρ' : List Addr} {G' H' : Hp} (m : Mem C Γ S ρ' G' H' σ) (n : Nx ρ G H ρ' G' H') (c : RV H ρ' G' H' d v) : Q v H' := h v ρ' G' H' m n c
theorem Post.at {d : α} {v : β} {Q : β → Hp → Prop} (h : Post C W RV Γ ρ G H σ (.ok d S) Q) (m : Mem C Γ S ρ G H σ) (c : RV H ρ G H d v) : Q v H := h v ρ G H m .refl c
end

/-! ### an expression by what it evaluates to -/
def tE (C : Cn) (W : WX) (RV : RVT D V) (δ : De) : TE := fun σ H Q => ∃ Γ S ρ G, Mem C Γ S ρ G H σ ∧ Post C W RV Γ ρ G H σ (δ Γ S) Q
def tT (C : Cn) (W : WX) (δ : Dt) : TT := fun σ H Q => ∃ Γ S ρ G, Mem C Γ S ρ G H σ ∧ Post C W RB Γ ρ G H σ (δ Γ S) Q
def tA (C : Cn) (W : WX) (δ : Da) : TA := fun σ H Q => ∃ Γ S ρ G, Mem C Γ S ρ G H σ ∧ Post C W (RA C) Γ ρ G H σ (δ Γ S) Q
def DE (X : Cx) (cls : Nat → Addr) (W : WX) (e : Expr) (δ : De) : Prop := PE X e (tE ⟨X.K, cls⟩ W (RS ⟨X.K, cls⟩) δ)
def DO (X : Cx) (cls : Nat → Addr) (W : WX) (e : Expr) (δ : De) : Prop := PE X e (tE ⟨X.K, cls⟩ W (RO ⟨X.K, cls⟩) δ)
def DF (X : Cx) (cls : Nat → Addr) (W : WX) (e : Expr) (δ : De) : Prop := PE X e (tE ⟨X.K, cls⟩ W (RF ⟨X.K, cls⟩) δ)
def DT (X : Cx) (cls : Nat → Addr) (W : WX) (e : Expr) (δ : Dt) : Prop := PT X e (tT ⟨X.K, cls⟩ W δ)
def DW (X : Cx) (cls : Nat → Addr) (W : WX) (e : Expr) (δ : Dt) : Prop := PW X e (tT ⟨X.K, cls⟩ W δ)
def DA (X : Cx) (cls : Nat → Addr) (W : WX) (es : List Expr) (δ : Da) : Prop := PA X es (tA ⟨X.K, cls⟩ W δ)

theorem PE.weak {X : Cx} {e : Expr} {t t' : TE} (h : PE X e t) (i : ∀ σ H Q, t' σ H Q → t σ H Q) : PE X e t' := ⟨fun pins s σ H Q I h' => h.run pins s σ H Q I (i σ H Q h')⟩
theorem PT.weak {X : Cx} {e : Expr} {t t' : TT} (h : PT X e t) (i : ∀ σ H Q, t' σ H Q → t σ H Q) : PT X e t' := ⟨fun pins s σ H Q I h' => h.run pins s σ H Q I (i σ H Q h')⟩
theorem PW.weak {X : Cx} {e : Expr} {t t' : TT} (h : PW X e t) (i : ∀ σ H Q, t' σ H Q → t σ H Q) : PW X e t' := ⟨fun w pins s σ H Q I h' => h.run w pins s σ H Q I (i σ H Q h')⟩
theorem PA.weak {X : Cx} {e : List Expr} {t t' : TA} (h : PA X e t) (i : ∀ σ H Q, t' σ H Q → t σ H Q) : PA X e t' := ⟨fun p pins s σ H Q I h' => h.run p pins s σ H Q I (i σ H Q h')⟩
theorem PS.weak {X : Cx} {e : Stmt} {t t' : TS} (h : PS X e t) (i : ∀ D σ H, t' D σ H → t D σ H) : PS X e t' := ⟨fun pins s σ H D I h' => h.run pins s σ H D I (i D σ H h')⟩
theorem PSs.weak {X : Cx} {e : List Stmt} {t t' : TS} (h : PSs X e t) (i : ∀ D σ H, t' D σ H → t D σ H) : PSs X e t' := ⟨fun pins s σ H D I h' => h.run pins s σ H D I (i D σ H h')⟩

/-! ### reading -/
def deref (S : List D) : D → D
  | .ptr k => match S[k]? with | some d => d | none => .ptr k
  | d => d
/-- how a value reads at the heap -/
def RT (C : Cn) (ρ : List Addr) (G H : Hp) (d : D) (v : V) : Prop := match d with
  | .lst xs => ∃ a vs, v = V.ref a ∧ H a = some (.lst vs) ∧ Reps C ρ G xs vs
  | .dct ks xs => ∃ a vs, v = V.ref a ∧ Rd H a (.dK (ks.zip vs)) ∧ ks.length = xs.length ∧ Reps C ρ G xs vs
  | .ins c ns xs => ∃ a dx vs, v = V.ref a ∧ H a = some (.ins (C.cls (c + 3)) dx (ns.zip vs)) ∧ ns.length = xs.length ∧ Reps C ρ G xs vs
  | d => Rep C ρ G d v
theorem ObAt.rt {a : Addr} : ∀ {d : D}, ObAt C ρ G H a d → RT C ρ G H d (V.ref a)
  | .lst xs, ⟨vs, h, r⟩ => ⟨a, vs, rfl, h, r⟩
  | .dct ks xs, ⟨vs, h, l, r⟩ => ⟨a, vs, rfl, .inl h, l, r⟩
  | .ins c ns xs, ⟨dx, vs, h, l, r⟩ => ⟨a, dx, vs, rfl, h, l, r⟩
theorem Rep.rt (e : SubH C G H) : ∀ {d : D} {v : V}, Rep C ρ G d v → RT C ρ G H d v
  | .non, _, h => h
  | .bl _, _, h => h
  | .int _, _, h => h
  | .str _, _, h => h
  | .tup _, _, h => h
  | .ptr _, _, h => h
  | .scr _, _, h => h
  | .lst xs, _, h => by
    rw [Rep] at h
    obtain ⟨a, vs, rfl, h1, h2⟩ := h
    exact ⟨a, vs, rfl, e.lst h1, h2⟩
  | .dct ks xs, _, h => by
    rw [Rep] at h
    obtain ⟨a, vs, rfl, h1, l, h2⟩ := h
    exact ⟨a, vs, rfl, e.dk h1, l, h2⟩
  | .ins c ns xs, _, h => by
    rw [Rep] at h
    obtain ⟨a, dx, vs, rfl, h1, l, h2⟩ := h
    exact ⟨a, dx, vs, rfl, e.get h1 (fun _ z => nomatch z), l, h2⟩
theorem Mem.read {Γ : List Sl} {S : List D} {σ : L2.St} {H0 : Hp} {d : D} {v : V} (m : Mem C Γ S ρ G H σ) (r : RO C H0 ρ G H d v) : RT C ρ G H (deref S d) v := by
  rcases r with r | ⟨a, rfl, n, r⟩
  · cases d with
    | ptr k =>
      unfold deref
      rw [Rep] at r
      obtain ⟨a, h1, rfl⟩ := r
      have hk : k < S.length := by rw [← m.len]; exact (List.getElem?_eq_some_iff.mp h1).1
      obtain ⟨b, hb, r⟩ := m.sto k S[k] (List.getElem?_eq_getElem hk)
      rw [h1] at hb; cases hb
      show RT C ρ G H (match S[k]? with | some d => d | none => D.ptr k) (V.ref a)
      rw [List.getElem?_eq_getElem hk]
      exact r.rt
    | _ => exact r.rt m.sub
  · cases d with
    | lst _ => exact r.rt
    | dct _ _ => exact r.rt
    | ins _ _ _ => exact r.rt
    | _ => exact (show False from r).elim
/-- readable still, behind a step -/
theorem RO.step {H0 H1 : Hp} {d : D} {v : V} (n : Nx ρ G H ρ' G' H') (r : RO C H0 ρ G H d v) : RO C H1 ρ' G' H' d v := by
  rcases r with r | ⟨a, rfl, na, r⟩
  · exact .inl (r.mono n.ext n.pre)
  · obtain ⟨o, ho⟩ := r.some
    refine .inr ⟨a, rfl, fun z => ?_, r.mono n.ext n.pre fun o q => n.keep a o (fun ps z => r.plain.1 ps (by rw [q, z])) q na⟩
    rcases n.fre a z with z | z
    · exact na z
    · rw [ho] at z; cases z

section
variable {v : V}
theorem rep_non : Rep C ρ G .non v ↔ v = .non := by rw [Rep]
theorem rep_bl {b : Bool} : Rep C ρ G (.bl b) v ↔ v = .bl b := by rw [Rep]
theorem rep_int {b : Int} : Rep C ρ G (.int b) v ↔ v = .int b := by rw [Rep]
theorem rep_str {b : Str} : Rep C ρ G (.str b) v ↔ v = .str b := by rw [Rep]
theorem rep_tup {xs : List D} : Rep C ρ G (.tup xs) v ↔ ∃ a vs, v = V.ref a ∧ SqT C.K G a vs ∧ Reps C ρ G xs vs := by rw [Rep]
theorem rep_lst {xs : List D} : Rep C ρ G (.lst xs) v ↔ ∃ a vs, v = V.ref a ∧ G a = some (.lst vs) ∧ Reps C ρ G xs vs := by rw [Rep]
theorem rep_ptr {i : Nat} : Rep C ρ G (.ptr i) v ↔ ∃ a, ρ[i]? = some a ∧ v = V.ref a := by rw [Rep]
theorem rep_scr {ns : List Int} : Rep C ρ G (.scr ns) v ↔ ∃ a, v = V.ref a ∧ SqL C.K G a (ns.map V.int) := by rw [Rep]
theorem rt_non : RT C ρ G H .non v ↔ v = .non := rep_non (C := C) (ρ := ρ) (G := G)
theorem rt_bl {b : Bool} : RT C ρ G H (.bl b) v ↔ v = .bl b := rep_bl (C := C) (ρ := ρ) (G := G)
theorem rt_int {b : Int} : RT C ρ G H (.int b) v ↔ v = .int b := rep_int (C := C) (ρ := ρ) (G := G)
theorem rt_str {b : Str} : RT C ρ G H (.str b) v ↔ v = .str b := rep_str (C := C) (ρ := ρ) (G := G)
theorem rt_tup {xs : List D} : RT C ρ G H (.tup xs) v ↔ ∃ a vs, v = V.ref a ∧ SqT C.K G a vs ∧ Reps C ρ G xs vs := rep_tup (C := C) (ρ := ρ) (G := G)
theorem rt_ptr {i : Nat} : RT C ρ G H (.ptr i) v ↔ ∃ a, ρ[i]? = some a ∧ v = V.ref a := rep_ptr (C := C) (ρ := ρ) (G := G)
theorem rt_scr {ns : List Int} : RT C ρ G H (.scr ns) v ↔ ∃ a, v = V.ref a ∧ SqL C.K G a (ns.map V.int) := rep_scr (C := C) (ρ := ρ) (G := G)
end
/-! ### a new object -/
theorem Mem.new {Γ : List Sl} {S : List D} {σ : L2.St} {p : Addr} {o : HO} (m : Mem C Γ S ρ G H σ) (hp : H p = none) : Mem C Γ S ρ G (upd H p o) σ ∧ Nx ρ G H ρ G (upd H p o) ∧ p ∉ ρ ∧ G p = none := by
  have gp : G p = none := m.sub.gone hp
  have k : Sub H (upd H p o) := fun a u h => by rw [upd_ne (ne_of_none h hp)]; exact h
  have np : p ∉ ρ := fun z => by
    obtain ⟨i, hi⟩ := List.mem_iff_getElem?.mp z
    have hi2 : i < S.length := by rw [← m.len]; exact (List.getElem?_eq_some_iff.mp hi).1
    obtain ⟨a, ha, r⟩ := m.sto i S[i] (List.getElem?_eq_getElem hi2)
    rw [hi] at ha; cases ha
    obtain ⟨o, ho⟩ := r.some
    rw [ho] at hp; cases hp
  have n : Nx ρ G H ρ G (upd H p o) := ⟨List.prefix_refl _, .refl, fun _ _ h => .inl h, fun a u _ h _ => k a u h, fun a h => by
    by_cases e : a = p
    · subst e; exact hp
    · rw [upd_ne e] at h; exact h, fun _ h => .inl h⟩
  exact ⟨⟨m.sub.upd gp (noTE_of hp), m.val, fun i d h => by
    obtain ⟨a, e, r, g, q⟩ := m.own i d h
    exact ⟨a, e, r.mono .refl (List.prefix_refl _) fun o h => k _ _ h, g, q⟩, m.inj, fun i d h => by
    obtain ⟨a, e, r⟩ := m.sto i d h
    exact ⟨a, e, r.mono .refl (List.prefix_refl _) fun o h => k _ _ h⟩, m.stG, m.len, m.nd, m.wid, m.xcp⟩, n, np, gp⟩
/-- what is new is settled -/
theorem Mem.settle {Γ : List Sl} {S S' : List D} {σ : L2.St} {p : Addr} {o : HO} {ρ0 : List Addr} {G0 H0 : Hp} (m0 : Mem C Γ S ρ0 G0 H0 σ) (n : Nx ρ0 G0 H0 ρ G H) (m : Mem C Γ S' ρ G H σ) (h0 : H0 p = none) (hg : G p = none) (hp : p ∉ ρ) (ho : H p = some o) :
    Mem C Γ S' ρ (upd G p o) H σ ∧ Nx ρ0 G0 H0 ρ (upd G p o) H ∧ Sub G (upd G p o) := by
  have k : Sub G (upd G p o) := fun a u h => by rw [upd_ne (ne_of_none h hg)]; exact h
  refine ⟨⟨m.sub.put ho, fun i d h => ?_, fun i d h => ?_, m.inj, fun i d h => ?_, fun a h => ?_, m.len, m.nd, m.wid, fun i x h => ⟨(m.xcp i x h).1, (m.xcp i x h).2.mono k (List.prefix_refl _)⟩⟩, ⟨n.pre, n.ext.trans k, fun a u h => ?_, n.keep, n.live, n.fre⟩, k⟩
  · obtain ⟨v, e, r⟩ := m.val i d h
    exact ⟨v, e, r.mono k (List.prefix_refl _)⟩
  · obtain ⟨a, e, r, g, q⟩ := m.own i d h
    obtain ⟨a0, e0, r0, _, _⟩ := m0.own i d h
    rw [e] at e0; cases e0
    obtain ⟨u, hu⟩ := r0.some
    have ne : a ≠ p := fun z => by rw [z, h0] at hu; cases hu
    exact ⟨a, e, r.mono k (List.prefix_refl _) fun _ h => h, by rw [upd_ne ne]; exact g, q⟩
  · obtain ⟨a, e, r⟩ := m.sto i d h
    exact ⟨a, e, r.mono k (List.prefix_refl _) fun _ h => h⟩
  · rw [upd_ne (fun z => hp (by rw [← z]; exact h))]; exact m.stG a h
  · by_cases e : a = p
    · subst e; exact .inr h0
    · rw [upd_ne e] at h; exact n.new a u h
theorem RF.settle {Γ : List Sl} {S S' : List D} {σ : L2.St} {ρ0 : List Addr} {G0 H0 : Hp} {d : D} {v : V} (m0 : Mem C Γ S ρ0 G0 H0 σ) (n : Nx ρ0 G0 H0 ρ G H) (m : Mem C Γ S' ρ G H σ) (r : RF C H0 ρ G H d v) :
    ∃ G', Mem C Γ S' ρ G' H σ ∧ Nx ρ0 G0 H0 ρ G' H ∧ Rep C ρ G' d v := by
  obtain ⟨a, rfl, na, h0, hg, r⟩ := r
  obtain ⟨o, ho⟩ := r.some
  obtain ⟨m', n', k⟩ := Mem.settle m0 n m h0 hg na ho
  refine ⟨_, m', n', ObAt.rep ?_⟩
  refine r.mono k (List.prefix_refl _) fun u hu => ?_
  rw [ho] at hu; cases hu
  exact upd_same
end
end DL

namespace DL
open PySem L2

/-! ### operations on data -/
mutual
def toPy : D → Option PyData
  | .non => some .none
  | .bl b => some (.bool b)
  | .int i => some (.int i)
  | .str x => some (.str x)
  | .lst xs => (toPys xs).map .list
  | .tup xs => (toPys xs).map .tuple
  | .dct _ _ => none
  | .ins _ _ _ => none
  | .ptr _ => none
  | .scr _ => none
def toPys : List D → Option (List PyData)
  | [] => some []
  | x :: xs => (toPy x).bind fun p => (toPys xs).map fun q => p :: q
end
section
variable {C : Cn} {ρ : List Addr} {G H : Hp}
mutual
theorem dp_of (e : SubH C G H) : ∀ (d : D) (v : V) (p : PyData), Rep C ρ G d v → toPy d = some p → Dp C.K H v p
  | .non, _, _, h, k => by rw [Rep] at h; rw [toPy] at k; cases k; subst h; exact .non
  | .bl _, _, _, h, k => by rw [Rep] at h; rw [toPy] at k; cases k; subst h; exact .bl _
  | .int _, _, _, h, k => by rw [Rep] at h; rw [toPy] at k; cases k; subst h; exact .int _
  | .str _, _, _, h, k => by rw [Rep] at h; rw [toPy] at k; cases k; subst h; exact .str _
  | .lst xs, _, p, h, k => by
    rw [Rep] at h
    obtain ⟨a, vs, rfl, h1, h2⟩ := h
    rw [toPy] at k
    cases q : toPys xs with
    | none => rw [q] at k; cases k
    | some ps =>
      rw [q] at k; cases k
      exact .lst (SqL.of (e.lst h1)) (dps_of e xs vs ps h2 q)
  | .tup xs, _, p, h, k => by
    rw [Rep] at h
    obtain ⟨a, vs, rfl, h1, h2⟩ := h
    rw [toPy] at k
    cases q : toPys xs with
    | none => rw [q] at k; cases k
    | some ps =>
      rw [q] at k; cases k
      exact .tup (e.sqT h1) (dps_of e xs vs ps h2 q)
  | .dct _ _, _, _, _, k => by rw [toPy] at k; cases k
  | .ins _ _ _, _, _, _, k => by rw [toPy] at k; cases k
  | .ptr _, _, _, _, k => by rw [toPy] at k; cases k
  | .scr _, _, _, _, k => by rw [toPy] at k; cases k
theorem dps_of (e : SubH C G H) : ∀ (ds : List D) (vs : List V) (ps : List PyData), Reps C ρ G ds vs → toPys ds = some ps → DpAll C.K H vs ps
  | [], _, _, h, k => by rw [h.inv0]; rw [toPys] at k; cases k; exact .nil
  | x :: xs, _, ps, h, k => by
    obtain ⟨v, r, rfl, h1, h2⟩ := h.inv
    rw [toPys] at k
    cases q : toPy x with
    | none => rw [q] at k; cases k
    | some p =>
      cases q2 : toPys xs with
      | none => rw [q, q2] at k; cases k
      | some ps' =>
        rw [q, q2] at k; cases k
        exact .cons (dp_of e x v p h1 q) (dps_of e xs r ps' h2 q2)
end
theorem dp_rt (e : SubH C G H) {d : D} {v : V} {p : PyData} (h : RT C ρ G H d v) (k : toPy d = some p) : Dp C.K H v p := by
  cases d with
  | lst xs =>
    obtain ⟨a, vs, rfl, h1, h2⟩ := h
    rw [toPy] at k
    cases q : toPys xs with
    | none => rw [q] at k; cases k
    | some ps =>
      rw [q] at k; cases k
      exact .lst (SqL.of h1) (dps_of e xs vs ps h2 q)
  | dct _ _ => rw [toPy] at k; cases k
  | ins _ _ _ => rw [toPy] at k; cases k
  | _ => exact dp_of e _ _ _ h k
end

def dEqP (a b : D) : Option Bool := match toPy a, toPy b with
  | some p, some q => if p.canLay0 = true ∧ q.canLay0 = true ∧ min p.depth q.depth ≤ 64 then some (PyData.eqv p q) else none
  | _, _ => none
def dEq : D → D → Option Bool
  | .str a, .str b => some (a == b)
  | a, b => dEqP a b
theorem dEq_cases (a b : D) : (∃ x y, a = .str x ∧ b = .str y ∧ dEq a b = some (x == y)) ∨ dEq a b = dEqP a b := by
  cases a <;> first | exact .inr rfl | (cases b <;> first | exact .inr rfl | exact .inl ⟨_, _, rfl, rfl, rfl⟩)
def cEq (a b : D) : Option D := (dEq a b).map .bl
def cNe (a b : D) : Option D := (dEq a b).map fun k => .bl (!k)
def cLt : D → D → Option D
  | .int i, .int j => some (.bl (decide (i < j)))
  | .str i, .str j => some (.bl (decide (i.cps.toList < j.cps.toList)))
  | _, _ => none
def cLe : D → D → Option D
  | .int i, .int j => some (.bl (decide (i ≤ j)))
  | .str i, .str j => some (.bl (!decide (j.cps.toList < i.cps.toList)))
  | _, _ => none
def cGt : D → D → Option D
  | .int i, .int j => some (.bl (decide (j < i)))
  | .str i, .str j => some (.bl (decide (j.cps.toList < i.cps.toList)))
  | _, _ => none
def cGe : D → D → Option D
  | .int i, .int j => some (.bl (decide (j ≤ i)))
  | .str i, .str j => some (.bl (!decide (i.cps.toList < j.cps.toList)))
  | _, _ => none
def isNon : D → Bool | .non => true | _ => false
def cIs : D → D → Option D | a, .non => some (.bl (isNon a)) | _, _ => none
def cIsNot : D → D → Option D | a, .non => some (.bl (!isNon a)) | _, _ => none
def dAdd : D → D → Option D
  | .int i, .int j => some (.int (i + j))
  | .str a, .str b => if a.length + b.length ≤ sizeLine then some (.str (a ++ b)) else none
  | .lst a, .lst b => if a.length + b.length ≤ sizeLine then some (.lst (a ++ b)) else none
  | .tup a, .tup b => if a.length + b.length ≤ sizeLine then some (.tup (a ++ b)) else none
  | _, _ => none
def dSub : D → D → Option D
  | .int i, .int j => some (.int (i - j))
  | _, _ => none
def mulOk (i j : Int) : Prop := (-(2 ^ 64) < i ∧ i < 2 ^ 64) ∨ (-(2 ^ 64) < j ∧ j < 2 ^ 64)
instance (i j : Int) : Decidable (mulOk i j) := by unfold mulOk; infer_instance
def dMul : D → D → Option D
  | .int i, .int j => if mulOk i j then some (.int (i * j)) else none
  | .lst xs, .int k => if -(2 ^ 63) ≤ k ∧ k < 2 ^ 63 ∧ xs.length * k.toNat ≤ sizeLine then some (.lst (List.replicate k.toNat xs).flatten) else none
  | .tup xs, .int k => if 1 ≤ k ∧ k ≤ 1000 ∧ xs.length ≤ 1000 then some (.tup (List.replicate k.toNat xs).flatten) else none
  | _, _ => none
def dDiv : D → D → Option D
  | .int i, .int j => if 0 < j ∧ j < 1073741824 then some (.int (i / j)) else none
  | _, _ => none
def dMod : D → D → Option D
  | .int i, .int j => if 0 < j then some (.int (i % j)) else none
  | _, _ => none
def dPow : D → D → Option D
  | .int i, .int j => if 0 ≤ j ∧ j ≤ 1000000 ∧ i.natAbs < 2 ^ 64 then some (.int (i ^ j.toNat)) else none
  | _, _ => none
def dNeg : D → Option D
  | .int i => some (.int (-i))
  | _ => none
def keyD : D → Option Key
  | .int i => some (.inl i)
  | .str x => some (.inr x)
  | _ => none
/-- the value of a key -/
def dGet : List Key → List D → Key → Option D
  | k :: ks, x :: xs, q => if k = q then some x else dGet ks xs q
  | _, _, _ => none
def dIdx : D → D → Option D
  | .lst xs, .int i => atI xs i
  | .tup xs, .int i => atI xs i
  | .scr ns, .int i => (atI ns i).map .int
  | .str x, .int i => if x.length ≤ sizeLine then (atI x.cps.toList i).map fun c => .str ⟨#[c]⟩ else none
  | _, _ => none
def dLen : D → Option D
  | .lst xs => some (.int xs.length)
  | .tup xs => some (.int xs.length)
  | .scr xs => some (.int xs.length)
  | .str x => if x.length ≤ sizeLine then some (.int x.length) else none
  | _ => none
def dTruth : D → Option Bool
  | .non => some false
  | .bl b => some b
  | .int i => some (i != 0)
  | .str x => if x.length ≤ sizeLine then some ((x.length : Int) != 0) else none
  | .lst xs => some !xs.isEmpty
  | .tup xs => some !xs.isEmpty
  | _ => none
/-- things that == compares at once -/
def flatD : D → Bool
  | .non | .bl _ | .int _ | .str _ => true
  | _ => false
def eqF : D → D → Bool
  | .non, .non => true
  | .bl a, .bl b => a == b
  | .bl a, .int j => (if a then 1 else 0) == j
  | .int i, .bl b => i == (if b then 1 else 0)
  | .int i, .int j => i == j
  | .str x, .str y => decide (x = y)
  | _, _ => false
def inF (x : D) (xs : List D) : Bool := xs.any fun y => eqF y x
def dIn : D → D → Option Bool
  | x, .lst xs => if flatD x ∧ xs.all flatD then some (inF x xs) else none
  | x, .tup xs => if flatD x ∧ xs.all flatD then some (inF x xs) else none
  | .str x, .str y => if x.length = 1 then some (decide (x.cps.getD 0 0 ∈ y.cps.toList)) else none
  | _, _ => none
def cIn (a b : D) : Option D := (dIn a b).map .bl
def cNotIn (a b : D) : Option D := (dIn a b).map fun k => .bl (!k)
def cutD (xs : List D) (lo hi : Option Int) : List D := (xs.drop (HT.sIx xs.length 0 lo)).take (HT.sIx xs.length xs.length hi - HT.sIx xs.length 0 lo)

/-! ### the forms of expressions -/
def eV (i : Nat) : De := fun Γ S => match Γ[i]? with | some (.val d) => .ok d S | _ => .stuck
def oV (i : Nat) : De := fun Γ S => match Γ[i]? with | some (.val d) => .ok d S | some (.own d) => .ok d S | _ => .stuck
def eC (d : D) : De := fun _ S => .ok d S
def ofO {α : Type} (o : Option α) (S : List D) : Res α := match o with | some d => .ok d S | none => .stuck
@[simp] theorem ofO_some {α : Type} (a : α) (S : List D) : ofO (some a) S = .ok a S := Eq.trans rfl rfl
@[simp] theorem ofO_none {α : Type} (S : List D) : ofO (none : Option α) S = .stuck := Eq.trans rfl rfl
def eOp (f : D → D → Option D) (a b : De) : De := fun Γ S => (a Γ S).bind fun x S1 => (b Γ S1).bind fun y S2 => ofO (f (deref S2 x) (deref S2 y)) S2
def eUn (f : D → Option D) (a : De) : De := fun Γ S => (a Γ S).bind fun x S1 => ofO (f (deref S1 x)) S1
def asB : D → Option Bool | .bl b => some b | _ => none
def tB (a : De) : Dt := fun Γ S => (a Γ S).bind fun x S1 => ofO (asB x) S1
def tTru (a : De) : Dt := fun Γ S => (a Γ S).bind fun x S1 => ofO (dTruth (deref S1 x)) S1
def tAndD (a b : Dt) : Dt := fun Γ S => (a Γ S).bind fun x S1 => if x then b Γ S1 else .ok false S1
def tOrD (a b : Dt) : Dt := fun Γ S => (a Γ S).bind fun x S1 => if x then .ok true S1 else b Γ S1
def tNotD (a : Dt) : Dt := fun Γ S => (a Γ S).bind fun x S1 => .ok (!x) S1
def eIf (t : Dt) (a b : De) : De := fun Γ S => (t Γ S).bind fun x S1 => if x then a Γ S1 else b Γ S1
def eAnd (a b : De) : De := fun Γ S => (a Γ S).bind fun x S1 => match asB x with | some true => b Γ S1 | some false => .ok (.bl false) S1 | none => .stuck
def eOr (a b : De) : De := fun Γ S => (a Γ S).bind fun x S1 => match asB x with | some true => .ok (.bl true) S1 | some false => b Γ S1 | none => .stuck
def eNot (a : De) : De := fun Γ S => (a Γ S).bind fun x S1 => match asB x with | some b => .ok (.bl (!b)) S1 | none => .stuck
def aNil : Da := fun _ S => .ok [] S
def aCons (a : De) (r : Da) : Da := fun Γ S => (a Γ S).bind fun x S1 => (r Γ S1).bind fun xs S2 => .ok (x :: xs) S2
def eCall (F : List D → List D → Res D) (a : Da) : De := fun Γ S => (a Γ S).bind fun ds S1 => F ds S1
def eTup (a : Da) : De := fun Γ S => (a Γ S).bind fun ds S1 => .ok (.tup ds) S1
def eLst (a : Da) : De := fun Γ S => (a Γ S).bind fun ds S1 => .ok (.lst ds) S1
/-- a list that is kept in the store -/
def eBox (a : De) : De := fun Γ S => (a Γ S).bind fun d S1 => .ok (.ptr S1.length) (S1 ++ [d])

section
variable {X : Cx} {cls : Nat → Addr} {W : WX} {e a b c : Expr} {es : List Expr} {pos : Pos} {δ δa δb δc : De} {τ τa τb : Dt} {α : Da}
theorem de_o (h : DE X cls W e δ) : DO X cls W e δ := PE.weak h fun σ H Q ⟨Γ, S, ρ, G, m, p⟩ => ⟨Γ, S, ρ, G, m, p.conv fun _ _ _ _ _ r => .inl r⟩
theorem df_o (h : DF X cls W e δ) : DO X cls W e δ := PE.weak h fun σ H Q ⟨Γ, S, ρ, G, m, p⟩ => ⟨Γ, S, ρ, G, m, p.conv fun _ _ _ _ _ ⟨a, e, n, _, _, r⟩ => .inr ⟨a, e, n, r⟩⟩
theorem df_e (h : DF X cls W e δ) : DE X cls W e δ := PE.weak h fun σ H Q ⟨Γ, S, ρ, G, m, p⟩ => ⟨Γ, S, ρ, G, m, by
  cases q : δ Γ S with
  | ok d S' =>
    rw [q] at p
    intro v ρ' G' H' m' n' r
    obtain ⟨G2, m2, n2, r2⟩ := RF.settle m n' m' r
    exact p v ρ' G2 H' m2 n2 r2
  | exc x S' => rw [q] at p; exact p
  | stuck => rw [q] at p; exact p⟩

theorem de_v (i : Nat) {x : Str} (hN : X.N[i]? = some x := by rfl) (hv : Vis X.env.scope x := by first | exact Or.inl rfl | exact Or.inr (Or.inl rfl) | exact Or.inr (Or.inr rfl)) (hd : (x == ("__debug__" : Str)) = false := by decide)
    (hcd : (x == ("__classdict__" : Str)) = false := by decide) : DE X cls W (.Name x pos) (eV i) := PE.weak (pv i hN hv hd hcd) fun σ H Q ⟨Γ, S, ρ, G, m, p⟩ => by
  unfold eV at p
  split at p
  · rename_i d hd
    obtain ⟨v, e, r⟩ := m.val i d hd
    exact ⟨v, e, p.at m r⟩
  · exact p.elim
theorem do_v (i : Nat) {x : Str} (hN : X.N[i]? = some x := by rfl) (hv : Vis X.env.scope x := by first | exact Or.inl rfl | exact Or.inr (Or.inl rfl) | exact Or.inr (Or.inr rfl)) (hd : (x == ("__debug__" : Str)) = false := by decide)
    (hcd : (x == ("__classdict__" : Str)) = false := by decide) : DO X cls W (.Name x pos) (oV i) := PE.weak (pv i hN hv hd hcd) fun σ H Q ⟨Γ, S, ρ, G, m, p⟩ => by
  unfold oV at p
  split at p
  · rename_i d hd
    obtain ⟨v, e, r⟩ := m.val i d hd
    exact ⟨v, e, p.at m (.inl r)⟩
  · rename_i d hd
    obtain ⟨a, e, r, _, na⟩ := m.own i d hd
    exact ⟨_, e, p.at m (.inr ⟨a, rfl, na, r⟩)⟩
  · exact p.elim
/-- a constant, or a name of the module -/
theorem de_c {v : V} {d : D} (h : PE X e (tC v)) (r : ∀ ρ G, Rep ⟨X.K, cls⟩ ρ G d v) : DE X cls W e (eC d) := PE.weak h fun σ H Q ⟨Γ, S, ρ, G, m, p⟩ => p.at m (r ρ G)
theorem de_int {i j} : DE X cls W (.Constant (.int i) j pos) (eC (.int i)) := de_c pe_int fun _ _ => by rw [Rep]
theorem de_bl {i j} : DE X cls W (.Constant (.bool i) j pos) (eC (.bl i)) := de_c pe_bl fun _ _ => by rw [Rep]
theorem de_non {j} : DE X cls W (.Constant .none j pos) (eC .non) := de_c pe_non fun _ _ => by rw [Rep]
theorem de_str {x j} : DE X cls W (.Constant (.str x) j pos) (eC (.str x)) := de_c pe_str fun _ _ => by rw [Rep]

/-- what an operation must do -/
def R2Ok (C : Cn) (RV : RVT D V) (R : R2) (f : D → D → Option D) : Prop := ∀ (S : List D) (ρ : List Addr) (G H : Hp) (x y : V) (d dx dy : D) (Q : VK), MemS C S ρ G H → RT C ρ G H dx x → RT C ρ G H dy y → f dx dy = some d →
  (∀ v ρ' G' H', MemS C S ρ' G' H' → Nx ρ G H ρ' G' H' → RV H ρ' G' H' d v → Q v H') → R x y H Q
def R1Ok (C : Cn) (RV : RVT D V) (R : V → Hp → VK → Prop) (f : D → Option D) : Prop := ∀ (S : List D) (ρ : List Addr) (G H : Hp) (x : V) (d dx : D) (Q : VK), MemS C S ρ G H → RT C ρ G H dx x → f dx = some d →
  (∀ v ρ' G' H', MemS C S ρ' G' H' → Nx ρ G H ρ' G' H' → RV H ρ' G' H' d v → Q v H') → R x H Q
theorem ofO_post {C : Cn} {W : WX} {α β : Type} {RV : RVT α β} {Γ : List Sl} {ρ : List Addr} {G H : Hp} {σ : L2.St} {o : Option α} {S : List D} {Q : β → Hp → Prop} (h : Post C W RV Γ ρ G H σ (ofO o S) Q) : ∃ d, o = some d ∧ Post C W RV Γ ρ G H σ (.ok d S) Q := by
  cases o with
  | none => exact h.elim
  | some d => exact ⟨d, rfl, h⟩
theorem x_op {RV : RVT D V} (bk : Back RV) {R : R2} {f : D → D → Option D} (ho : R2Ok ⟨X.K, cls⟩ RV R f) {σ : L2.St} {H : Hp} {Q : VK} (h : tE ⟨X.K, cls⟩ W RV (eOp f δa δb) σ H Q) :
    tE ⟨X.K, cls⟩ W (RO ⟨X.K, cls⟩) δa σ H fun x H1 => tE ⟨X.K, cls⟩ W (RO ⟨X.K, cls⟩) δb σ H1 fun y H2 => R x y H2 Q := by
  obtain ⟨Γ, S, ρ, G, m, p⟩ := h
  refine ⟨Γ, S, ρ, G, m, (Post.seq bk p).mono fun x H1 ⟨dx, S1, ρ1, G1, m1, n1, r1, p1⟩ => ⟨Γ, S1, ρ1, G1, m1, (Post.seq bk p1).mono fun y H2 ⟨dy, S2, ρ2, G2, m2, n2, r2, p2⟩ => ?_⟩⟩
  obtain ⟨d, hd, p3⟩ := ofO_post p2
  exact ho S2 ρ2 G2 H2 x y d _ _ Q m2.toS (m2.read (H0 := H1) (r1.step n2)) (m2.read r2) hd fun v ρ' G' H' m' n' r' => p3.here (m2.step n' m') n' r'
theorem de_op {op : Operator} {R : R2} {f : D → D → Option D} (ho : OpR X (binaryOp op) R) (hf : R2Ok ⟨X.K, cls⟩ (RS ⟨X.K, cls⟩) R f) (ha : DO X cls W a δa) (hb : DO X cls W b δb) : DE X cls W (.BinOp a op b pos) (eOp f δa δb) :=
  PE.weak (pe_op ho ha hb) fun _ _ _ h => x_op back_RS hf h
theorem df_op {op : Operator} {R : R2} {f : D → D → Option D} (ho : OpR X (binaryOp op) R) (hf : R2Ok ⟨X.K, cls⟩ (RF ⟨X.K, cls⟩) R f) (ha : DO X cls W a δa) (hb : DO X cls W b δb) : DF X cls W (.BinOp a op b pos) (eOp f δa δb) :=
  PE.weak (pe_op ho ha hb) fun _ _ _ h => x_op back_RF hf h
theorem de_cmp {op : CmpOp} {R : R2} {f : D → D → Option D} (ho : OpR X (compareOp op) R) (hf : R2Ok ⟨X.K, cls⟩ (RS ⟨X.K, cls⟩) R f) (ha : DO X cls W a δa) (hb : DO X cls W b δb) (hm : behindInMarks op b = false) : DE X cls W (.Compare a [op] [b] pos) (eOp f δa δb) :=
  PE.weak (pe_cmpR ho ha hb hm) fun _ _ _ h => x_op back_RS hf h
theorem dt_cmp {op : CmpOp} {R : R2} {f : D → D → Option D} (ho : OpR X (compareOp op) R) (hf : R2Ok ⟨X.K, cls⟩ (RS ⟨X.K, cls⟩) R f) (ha : DO X cls W a δa) (hb : DO X cls W b δb) (hm : behindInMarks op b = false) : DT X cls W (.Compare a [op] [b] pos) (tB (eOp f δa δb)) :=
  PT.weak (pt_cmpR ho ha hb hm) fun σ H Q ⟨Γ, S, ρ, G, m, p⟩ => by
    refine x_op (W := W) (δa := δa) (δb := δb) (cls := cls) back_RS hf ⟨Γ, S, ρ, G, m, (Post.seq back_RB p).mono fun v H1 ⟨d, S1, ρ1, G1, m1, n1, r1, p1⟩ => ?_⟩
    obtain ⟨k, hk, p2⟩ := ofO_post p1
    cases d <;> try cases hk
    have e : v = .bl k := rep_bl.mp r1
    exact ⟨k, e, p2.at m1 rfl⟩
theorem de_ix {R : R2} {f : D → D → Option D} (ho : IxR X R) (hf : R2Ok ⟨X.K, cls⟩ (RS ⟨X.K, cls⟩) R f) (ha : DO X cls W a δa) (hb : DO X cls W b δb) (hs : PlainIx b := by exact fun _ _ => rfl) : DE X cls W (.Subscript a b pos) (eOp f δa δb) :=
  PE.weak (pe_ix ho ha hb hs) fun _ _ _ h => x_op back_RS hf h
theorem x_un {RV : RVT D V} (bk : Back RV) {R : V → Hp → VK → Prop} {f : D → Option D} (ho : R1Ok ⟨X.K, cls⟩ RV R f) {σ : L2.St} {H : Hp} {Q : VK} (h : tE ⟨X.K, cls⟩ W RV (eUn f δa) σ H Q) :
    tE ⟨X.K, cls⟩ W (RO ⟨X.K, cls⟩) δa σ H fun x H1 => R x H1 Q := by
  obtain ⟨Γ, S, ρ, G, m, p⟩ := h
  refine ⟨Γ, S, ρ, G, m, (Post.seq bk p).mono fun x H1 ⟨dx, S1, ρ1, G1, m1, n1, r1, p1⟩ => ?_⟩
  obtain ⟨d, hd, p3⟩ := ofO_post p1
  exact ho S1 ρ1 G1 H1 x d _ Q m1.toS (m1.read r1) hd fun v ρ' G' H' m' n' r' => p3.here (m1.step n' m') n' r'
theorem de_un {op : UnaryOp} {R : V → Hp → VK → Prop} {f : D → Option D} (ho : UnR X (unaryOp op) R) (hf : R1Ok ⟨X.K, cls⟩ (RS ⟨X.K, cls⟩) R f) (ha : DO X cls W a δa) : DE X cls W (.UnaryOp op a pos) (eUn f δa) :=
  PE.weak (pe_un ho ha) fun _ _ _ h => x_un back_RS hf h
/-- a test that is a value's truth -/
theorem dt_tru (ha : DO X cls W a δa) (he : ∀ whole, isTrue a X.env whole = (do let v ← whole; standAt a.pos; holding [v] (truthy v)) := by intro _; rfl) : DT X cls W a (tTru δa) :=
  PT.weak (pt_truth ha he) fun σ H Q ⟨Γ, S, ρ, G, m, p⟩ => ⟨Γ, S, ρ, G, m, (Post.seq back_RB p).mono fun x H1 ⟨dx, S1, ρ1, G1, m1, n1, r1, p1⟩ => by
    obtain ⟨k, hk, p2⟩ := ofO_post p1
    refine ⟨k, ?_, p2.at m1 rfl⟩
    have rt := m1.read r1
    generalize deref S1 dx = dd at hk rt
    cases dd with
    | non => rw [rt_non] at rt; subst rt; exact (Option.some.inj hk).symm
    | bl b => rw [rt_bl] at rt; subst rt; exact (Option.some.inj hk).symm
    | int b => rw [rt_int] at rt; subst rt; exact (Option.some.inj hk).symm
    | str b =>
      rw [rt_str] at rt; subst rt
      rw [dTruth] at hk
      split at hk
      · rename_i hz; exact ⟨hz, (Option.some.inj hk).symm⟩
      · cases hk
    | lst xs =>
      obtain ⟨p, vs, rfl, h1, h2⟩ := rt
      refine .inl ⟨vs, SqL.of h1, ?_⟩
      rw [← Option.some.inj hk]
      have := h2.length
      cases xs <;> cases vs <;> simp_all
    | tup xs =>
      rw [rt_tup] at rt
      obtain ⟨p, vs, rfl, h1, h2⟩ := rt
      refine .inr (.inl ⟨vs, m1.sub.sqT h1, ?_⟩)
      rw [← Option.some.inj hk]
      have := h2.length
      cases xs <;> cases vs <;> simp_all
    | _ => cases hk⟩
theorem dt_val (ha : DE X cls W a δa) (he : ∀ whole, isTrue a X.env whole = (do let v ← whole; standAt a.pos; holding [v] (truthy v)) := by intro _; rfl) : DT X cls W a (tB δa) :=
  PT.weak (pt_val ha he) fun σ H Q ⟨Γ, S, ρ, G, m, p⟩ => ⟨Γ, S, ρ, G, m, (Post.seq back_RB p).mono fun x H1 ⟨dx, S1, ρ1, G1, m1, n1, r1, p1⟩ => by
    obtain ⟨k, hk, p2⟩ := ofO_post p1
    cases dx <;> try cases hk
    have e : x = .bl k := rep_bl.mp r1
    exact ⟨k, e, p2.at m1 rfl⟩⟩
/-! and, or, not in tests -/
theorem dw_t (h : DW X cls W e τ) : DT X cls W e τ := PW.pt h
theorem dw_and1 (ha : DT X cls W a τ) : DW X cls W (.BoolOp .And [a] pos) τ := pw_and1 ha
theorem dw_or1 (ha : DT X cls W a τ) : DW X cls W (.BoolOp .Or [a] pos) τ := pw_or1 ha
theorem dw_and {rest : List Expr} (ha : DT X cls W a τa) (hb : DW X cls W (.BoolOp .And (b :: rest) pos) τb) : DW X cls W (.BoolOp .And (a :: b :: rest) pos) (tAndD τa τb) :=
  PW.weak (pw_and ha hb) fun σ H Q ⟨Γ, S, ρ, G, m, p⟩ => ⟨Γ, S, ρ, G, m, (Post.seq (RV := RB) back_RB p).mono fun k H1 ⟨k', S1, ρ1, G1, m1, n1, r1, p1⟩ => by
    have e1 : k' = k := r1
    subst e1
    cases k' with
    | true => exact iteT ⟨Γ, S1, ρ1, G1, m1, p1⟩
    | false => exact iteF (p1.at m1 rfl)⟩
theorem dw_or {rest : List Expr} (ha : DT X cls W a τa) (hb : DW X cls W (.BoolOp .Or (b :: rest) pos) τb) : DW X cls W (.BoolOp .Or (a :: b :: rest) pos) (tOrD τa τb) :=
  PW.weak (pw_or ha hb) fun σ H Q ⟨Γ, S, ρ, G, m, p⟩ => ⟨Γ, S, ρ, G, m, (Post.seq (RV := RB) back_RB p).mono fun k H1 ⟨k', S1, ρ1, G1, m1, n1, r1, p1⟩ => by
    have e1 : k' = k := r1
    subst e1
    cases k' with
    | true => exact iteT (p1.at m1 rfl)
    | false => exact iteF ⟨Γ, S1, ρ1, G1, m1, p1⟩⟩
theorem dt_not (ha : DT X cls W a τ) : DT X cls W (.UnaryOp .Not a pos) (tNotD τ) :=
  PT.weak (pt_not ha) fun σ H Q ⟨Γ, S, ρ, G, m, p⟩ => ⟨Γ, S, ρ, G, m, (Post.seq (RV := RB) back_RB p).mono fun k H1 ⟨k', S1, ρ1, G1, m1, n1, r1, p1⟩ => by
    have e1 : k' = k := r1
    subst e1
    exact p1.at m1 rfl⟩
/-! and, or, not as values, of truth values -/
theorem de_one {op} (h : DE X cls W a δ) : DE X cls W (.BoolOp op [a] pos) δ := pe_one h
theorem de_and {rest : List Expr} (ha : DE X cls W a δa) (hb : DE X cls W (.BoolOp .And (b :: rest) pos) δb) : DE X cls W (.BoolOp .And (a :: b :: rest) pos) (eAnd δa δb) :=
  PE.weak (pe_and ha hb) fun σ H Q ⟨Γ, S, ρ, G, m, p⟩ => ⟨Γ, S, ρ, G, m, (Post.seq back_RS p).mono fun x H1 ⟨dx, S1, ρ1, G1, m1, n1, r1, p1⟩ => by
    cases dx with
    | bl k =>
      have e : x = .bl k := rep_bl.mp r1
      refine ⟨k, e, ?_⟩
      cases k with
      | true => exact iteT ⟨Γ, S1, ρ1, G1, m1, p1⟩
      | false => exact iteF (p1.at m1 (rep_bl.mpr rfl))
    | _ => exact p1.elim⟩
theorem de_or {rest : List Expr} (ha : DE X cls W a δa) (hb : DE X cls W (.BoolOp .Or (b :: rest) pos) δb) : DE X cls W (.BoolOp .Or (a :: b :: rest) pos) (eOr δa δb) :=
  PE.weak (pe_or ha hb) fun σ H Q ⟨Γ, S, ρ, G, m, p⟩ => ⟨Γ, S, ρ, G, m, (Post.seq back_RS p).mono fun x H1 ⟨dx, S1, ρ1, G1, m1, n1, r1, p1⟩ => by
    cases dx with
    | bl k =>
      have e : x = .bl k := rep_bl.mp r1
      refine ⟨k, e, ?_⟩
      cases k with
      | true => exact iteT (p1.at m1 (rep_bl.mpr rfl))
      | false => exact iteF ⟨Γ, S1, ρ1, G1, m1, p1⟩
    | _ => exact p1.elim⟩
theorem de_not (ha : DE X cls W a δa) : DE X cls W (.UnaryOp .Not a pos) (eNot δa) :=
  PE.weak (pe_not ha) fun σ H Q ⟨Γ, S, ρ, G, m, p⟩ => ⟨Γ, S, ρ, G, m, (Post.seq back_RS p).mono fun x H1 ⟨dx, S1, ρ1, G1, m1, n1, r1, p1⟩ => by
    cases dx with
    | bl k =>
      have e : x = .bl k := rep_bl.mp r1
      exact ⟨k, e, p1.at m1 (rep_bl.mpr rfl)⟩
    | _ => exact p1.elim⟩
theorem de_if (hc : DT X cls W c τ) (ha : DE X cls W a δa) (hb : DE X cls W b δb) : DE X cls W (.IfExp c a b pos) (eIf τ δa δb) :=
  PE.weak (pe_ifExp hc ha hb) fun σ H Q ⟨Γ, S, ρ, G, m, p⟩ => ⟨Γ, S, ρ, G, m, (Post.seq (RV := RB) back_RS p).mono fun k H1 ⟨k', S1, ρ1, G1, m1, n1, r1, p1⟩ => by
    have e1 : k' = k := r1
    subst e1
    cases k' with
    | true => exact iteT ⟨Γ, S1, ρ1, G1, m1, p1⟩
    | false => exact iteF ⟨Γ, S1, ρ1, G1, m1, p1⟩⟩
/-! arguments, displays -/
theorem da_nil : DA X cls W [] aNil := PA.weak pa_nil fun σ H Q ⟨Γ, S, ρ, G, m, p⟩ => p.at m Reps.nil
theorem da_cons (ha : DE X cls W e δ) (hr : DA X cls W es α) (hs : starEach (e :: es) X.env = (false, eval e X.env) :: starEach es X.env := by rfl) : DA X cls W (e :: es) (aCons δ α) :=
  PA.weak (pa_cons ha hr hs) fun σ H Q ⟨Γ, S, ρ, G, m, p⟩ => ⟨Γ, S, ρ, G, m, (Post.seq back_RA p).mono fun x H1 ⟨dx, S1, ρ1, G1, m1, n1, r1, p1⟩ => ⟨Γ, S1, ρ1, G1, m1, (Post.seq back_RA p1).mono fun xs H2 ⟨ds, S2, ρ2, G2, m2, n2, r2, p2⟩ =>
    p2.at m2 (Reps.cons (r1.mono n2.ext n2.pre) r2)⟩⟩
theorem da_len : ∀ {es : List Expr} {α : Da}, True := fun {_ _} => trivial
theorem x_new {C : Cn} {Γ : List Sl} {S : List D} {ρ : List Addr} {G H : Hp} {σ : L2.St} (m : Mem C Γ S ρ G H σ) {ds : List D} {vs : List V} (r : Reps C ρ G ds vs) {p : Addr} (hp : H p = none) :
    Mem C Γ S ρ G (upd H p (.lst vs)) σ ∧ Nx ρ G H ρ G (upd H p (.lst vs)) ∧ RF C H ρ G (upd H p (.lst vs)) (.lst ds) (V.ref p) := by
  obtain ⟨m', n', np, gp⟩ := m.new (o := .lst vs) hp
  exact ⟨m', n', p, rfl, np, hp, gp, vs, upd_same, r⟩
theorem x_newT {C : Cn} {Γ : List Sl} {S : List D} {ρ : List Addr} {G H : Hp} {σ : L2.St} (m : Mem C Γ S ρ G H σ) {ds : List D} {vs : List V} (r : Reps C ρ G ds vs) {p : Addr} (hp : H p = none) :
    ∃ G', Mem C Γ S ρ G' (upd H p (.tup vs)) σ ∧ Nx ρ G H ρ G' (upd H p (.tup vs)) ∧ Rep C ρ G' (.tup ds) (V.ref p) := by
  obtain ⟨m', n', np, gp⟩ := m.new (o := .tup vs) hp
  obtain ⟨m2, n2, k⟩ := Mem.settle m n' m' hp gp np upd_same
  exact ⟨_, m2, n2, by rw [Rep]; exact ⟨p, vs, rfl, SqT.of upd_same, Reps.mono k (List.prefix_refl _) _ _ r⟩⟩
theorem df_lst (h : DA X cls W es α) (hl : ∀ Γ S ds S', α Γ S = .ok ds S' → ds.length ≤ sizeLine) : DF X cls W (.List es pos) (eLst α) :=
  PE.weak (pe_lst h) fun σ H Q ⟨Γ, S, ρ, G, m, p⟩ => ⟨Γ, S, ρ, G, m, by
    unfold eLst at p
    cases q : α Γ S with
    | ok ds S1 =>
      rw [q] at p
      intro vs ρ1 G1 H1 m1 n1 r1
      refine ⟨by rw [← r1.length]; exact hl _ _ _ _ q, fun l hlp => ?_⟩
      obtain ⟨m2, n2, r2⟩ := x_new m1 r1 hlp
      exact p _ _ _ _ m2 (n1.trans n2) (back_RF _ _ _ _ _ _ _ n1.live r2)
    | exc x S1 => rw [q] at p; exact p
    | stuck => rw [q] at p; exact p⟩
theorem de_tup {x1} (h : DA X cls W es α) (hl : ∀ Γ S ds S', α Γ S = .ok ds S' → ds.length ≤ sizeLine) : DE X cls W (.Tuple es x1 pos) (eTup α) :=
  PE.weak (pe_tup h) fun σ H Q ⟨Γ, S, ρ, G, m, p⟩ => ⟨Γ, S, ρ, G, m, by
    unfold eTup at p
    cases q : α Γ S with
    | ok ds S1 =>
      rw [q] at p
      intro vs ρ1 G1 H1 m1 n1 r1
      refine ⟨by rw [← r1.length]; exact hl _ _ _ _ q, fun l hlp => ?_⟩
      obtain ⟨G2, m2, n2, r2⟩ := x_newT m1 r1 hlp
      exact p _ _ _ _ m2 (n1.trans n2) r2
    | exc x S1 => rw [q] at p; exact p
    | stuck => rw [q] at p; exact p⟩
/-- the number of written arguments -/
inductive ALen : Da → Nat → Prop
  | nil : ALen aNil 0
  | cons {δ : De} {α : Da} {n : Nat} (h : ALen α n) : ALen (aCons δ α) (n + 1)
theorem ALen.le {α : Da} {n : Nat} (h : ALen α n) : ∀ Γ S ds S', α Γ S = .ok ds S' → ds.length = n := by
  induction h with
  | nil => intro Γ S ds S' e; cases e; rfl
  | @cons δ α n h ih =>
    intro Γ S ds S' e
    unfold aCons at e
    cases q : δ Γ S with
    | ok d S1 =>
      rw [q] at e
      cases q2 : α Γ S1 with
      | ok ds2 S2 =>
        simp only [Res.bind_ok, q2] at e
        cases e
        rw [List.length_cons, ih _ _ _ _ q2]
      | exc _ _ => simp only [Res.bind_ok, q2] at e; cases e
      | stuck => simp only [Res.bind_ok, q2] at e; cases e
    | exc _ _ => rw [q] at e; cases e
    | stuck => rw [q] at e; cases e
theorem ALen.line {α : Da} {n : Nat} (h : ALen α n) (hn : n ≤ 1000) : ∀ Γ S ds S', α Γ S = .ok ds S' → ds.length ≤ sizeLine := fun Γ S ds S' e => by
  rw [h.le _ _ _ _ e]; exact Nat.le_of_lt (small1000 hn)
end
end DL

namespace DL
open PySem L2

theorem R2Ok.or {C : Cn} {RV : RVT D V} {R R' : R2} {f f' g : D → D → Option D} (h : R2Ok C RV R f) (h' : R2Ok C RV R' f') (hg : ∀ a b d, g a b = some d → f a b = some d ∨ f' a b = some d) :
    R2Ok C RV (fun x y H Q => R x y H Q ∨ R' x y H Q) g := fun S ρ G H x y d dx dy Q m rx ry e q => by
  rcases hg _ _ _ e with e | e
  · exact .inl (h S ρ G H x y d dx dy Q m rx ry e q)
  · exact .inr (h' S ρ G H x y d dx dy Q m rx ry e q)

section
variable {X : Cx} {cls : Nat → Addr} {C : Cn}
/-! ### ints -/
def onI (P : Int → Int → Bool) (g : Int → Int → Int) : D → D → Option D
  | .int i, .int j => if P i j then some (.int (g i j)) else none
  | _, _ => none
theorem ok_I {Pr : Int → Int → Prop} {P : Int → Int → Bool} {g : Int → Int → Int} (h : ∀ i j, P i j = true → Pr i j) : R2Ok C (RS C) (rI Pr fun i j => .int (g i j)) (onI P g) := fun S ρ G H x y d dx dy Q m rx ry e q => by
  cases dx <;> try cases e
  rename_i i
  cases dy <;> try cases e
  rename_i j
  rw [rt_int] at rx ry
  subst rx ry
  simp only [onI] at e
  split at e
  · rename_i hp
    cases e
    exact ⟨i, j, rfl, rfl, h i j hp, q _ _ _ _ m .refl (rep_int.mpr rfl)⟩
  · cases e
theorem ok_I0 {g : Int → Int → Int} : R2Ok C (RS C) (rI0 fun i j => .int (g i j)) (onI (fun _ _ => true) g) := fun S ρ G H x y d dx dy Q m rx ry e q => by
  cases dx <;> try cases e
  rename_i i
  cases dy <;> try cases e
  rename_i j
  rw [rt_int] at rx ry
  subst rx ry
  exact ⟨i, j, rfl, rfl, q _ _ _ _ m .refl (rep_int.mpr rfl)⟩
/-! ### texts, lists, tuples put together -/
def onS : D → D → Option D
  | .str a, .str b => if a.length + b.length ≤ sizeLine then some (.str (a ++ b)) else none
  | _, _ => none
theorem ok_S : R2Ok C (RS C) (fun x y H Q => ∃ i j, x = .str i ∧ y = .str j ∧ i.length + j.length ≤ sizeLine ∧ Q (.str (i ++ j)) H) onS := fun S ρ G H x y d dx dy Q m rx ry e q => by
  cases dx <;> try cases e
  rename_i i
  cases dy <;> try cases e
  rename_i j
  rw [rt_str] at rx ry
  subst rx ry
  simp only [onS] at e
  split at e
  · rename_i hp
    cases e
    exact ⟨i, j, rfl, rfl, hp, q _ _ _ _ m .refl (rep_str.mpr rfl)⟩
  · cases e
def onL : D → D → Option D
  | .lst a, .lst b => if a.length + b.length ≤ sizeLine then some (.lst (a ++ b)) else none
  | _, _ => none
theorem ok_LF : R2Ok C (RF C) rCat onL := fun S ρ G H x y d dx dy Q m rx ry e q => by
  cases dx <;> try cases e
  rename_i xs
  cases dy <;> try cases e
  rename_i ys
  obtain ⟨a, vs, rfl, h1, r1⟩ := rx
  obtain ⟨b, ws, rfl, h2, r2⟩ := ry
  simp only [onL] at e
  split at e
  · rename_i hp
    cases e
    refine ⟨a, b, vs, ws, rfl, rfl, h1, h2, by rw [← r1.length, ← r2.length]; exact hp, fun p hp => ?_⟩
    obtain ⟨m2, n2, r⟩ := x_new m (r1.append r2) hp
    exact q _ _ _ _ m2 n2 r
  · cases e
theorem rf_rs {R : R2} {f : D → D → Option D} (h : R2Ok C (RF C) R f) : R2Ok C (RS C) R f := fun S ρ G H x y d dx dy Q m rx ry e q =>
  h S ρ G H x y d dx dy Q m rx ry e fun v ρ' G' H' m' n' r => by
    obtain ⟨G2, m2, n2, r2⟩ := RF.settle m n' m' r
    exact q _ _ _ _ m2 n2 r2
theorem rf_rs1 {R : V → Hp → VK → Prop} {f : D → Option D} (h : R1Ok C (RF C) R f) : R1Ok C (RS C) R f := fun S ρ G H x d dx Q m rx e q =>
  h S ρ G H x d dx Q m rx e fun v ρ' G' H' m' n' r => by
    obtain ⟨G2, m2, n2, r2⟩ := RF.settle m n' m' r
    exact q _ _ _ _ m2 n2 r2
def onT : D → D → Option D
  | .tup a, .tup b => if a.length + b.length ≤ sizeLine then some (.tup (a ++ b)) else none
  | _, _ => none
theorem ok_T : R2Ok C (RS C) (rCatA C.K) onT := fun S ρ G H x y d dx dy Q m rx ry e q => by
  cases dx <;> try cases e
  rename_i xs
  cases dy <;> try cases e
  rename_i ys
  rw [rt_tup] at rx ry
  obtain ⟨a, vs, rfl, h1, r1⟩ := rx
  obtain ⟨b, ws, rfl, h2, r2⟩ := ry
  simp only [onT] at e
  split at e
  · rename_i hp
    cases e
    refine ⟨a, b, vs, ws, rfl, rfl, m.sub.sqT h1, m.sub.sqT h2, by rw [← r1.length, ← r2.length]; exact hp, fun e0 => ?_, fun _ e0 => ?_, fun _ _ p hp => ?_⟩
    · subst e0
      have z := r1.length
      cases xs with
      | nil => exact q _ _ _ _ m .refl (rep_tup.mpr ⟨b, ws, rfl, h2, r2⟩)
      | cons _ _ => cases z
    · subst e0
      have z := r2.length
      cases ys with
      | nil => rw [List.append_nil] at q; exact q _ _ _ _ m .refl (rep_tup.mpr ⟨a, vs, rfl, h1, r1⟩)
      | cons _ _ => cases z
    · obtain ⟨G2, m2, n2, r⟩ := x_newT m (r1.append r2) hp
      exact q _ _ _ _ m2 n2 r
  · cases e
theorem dAdd_cases (a b d : D) (h : dAdd a b = some d) : onI (fun _ _ => true) (fun i j => i + j) a b = some d ∨ onS a b = some d ∨ onL a b = some d ∨ onT a b = some d := by
  cases a <;> cases b <;> first | exact .inl h | exact .inr (.inl h) | exact .inr (.inr (.inl h)) | exact .inr (.inr (.inr h)) | cases h
theorem de_add {W : WX} {a b : Expr} {pos : Pos} {δa δb : De} (ha : DO X cls W a δa) (hb : DO X cls W b δb) : DE X cls W (.BinOp a .Add b pos) (eOp dAdd δa δb) :=
  de_op (op_add.or (op_add_str.or (op_cat.or op_catA))) (ok_I0.or (g := dAdd) (f' := fun a b => if (onS a b).isSome then onS a b else if (onL a b).isSome then onL a b else onT a b) (ok_S.or (f' := fun a b => if (onL a b).isSome then onL a b else onT a b) ((rf_rs ok_LF).or (f' := onT) ok_T (fun a b d h => by
      by_cases z : (onL a b).isSome
      · rw [if_pos z] at h; exact .inl h
      · rw [if_neg z] at h; exact .inr h)) (fun a b d h => by
      by_cases z : (onS a b).isSome
      · rw [if_pos z] at h; exact .inl h
      · rw [if_neg z] at h; exact .inr h)) (fun a b d h => by
      rcases dAdd_cases a b d h with h | h | h | h
      · exact .inl h
      · exact .inr (by rw [h]; rfl)
      · exact .inr (by cases a <;> cases b <;> first | cases h | (show (if (Option.isSome none) = true then _ else if (onL _ _).isSome = true then _ else _) = _; rw [h]; rfl))
      · exact .inr (by cases a <;> cases b <;> first | cases h | (show (if (Option.isSome none) = true then _ else if (Option.isSome none) = true then _ else _) = _; exact h)))) ha hb
theorem df_cat {W : WX} {a b : Expr} {pos : Pos} {δa δb : De} (ha : DO X cls W a δa) (hb : DO X cls W b δb) : DF X cls W (.BinOp a .Add b pos) (eOp onL δa δb) := df_op op_cat ok_LF ha hb
theorem de_sub {W : WX} {a b : Expr} {pos : Pos} {δa δb : De} (ha : DO X cls W a δa) (hb : DO X cls W b δb) : DE X cls W (.BinOp a .Sub b pos) (eOp (onI (fun _ _ => true) fun i j => i - j) δa δb) := de_op op_sub ok_I0 ha hb
abbrev fDiv : D → D → Option D := onI (fun _ j => decide (0 < j ∧ j < 1073741824)) fun i j => i / j
abbrev fMod : D → D → Option D := onI (fun _ j => decide (0 < j)) fun i j => i % j
def fPow : D → D → Option D := onI (fun i j => decide (0 ≤ j ∧ j ≤ 1000000 ∧ i.natAbs < 2 ^ 64)) fun i j => i ^ j.toNat
def P18 : Int := 10 ^ 18
theorem fPow_18 : fPow (.int 10) (.int 18) = some (.int P18) := rfl
abbrev fMulI : D → D → Option D := onI (fun i j => decide (mulOk i j)) fun i j => i * j
abbrev fSub : D → D → Option D := onI (fun _ _ => true) fun i j => i - j
theorem de_div {W : WX} {a b : Expr} {pos : Pos} {δa δb : De} (ha : DO X cls W a δa) (hb : DO X cls W b δb) : DE X cls W (.BinOp a .FloorDiv b pos) (eOp fDiv δa δb) := de_op op_fdiv (ok_I fun i j h => of_decide_eq_true (p := 0 < j ∧ j < 1073741824) h) ha hb
theorem de_mod {W : WX} {a b : Expr} {pos : Pos} {δa δb : De} (ha : DO X cls W a δa) (hb : DO X cls W b δb) : DE X cls W (.BinOp a .Mod b pos) (eOp fMod δa δb) := de_op op_mod (ok_I fun i j h => of_decide_eq_true h) ha hb
theorem de_pow {W : WX} {a b : Expr} {pos : Pos} {δa δb : De} (ha : DO X cls W a δa) (hb : DO X cls W b δb) : DE X cls W (.BinOp a .Pow b pos) (eOp fPow δa δb) := de_op op_pow (ok_I fun i j h => of_decide_eq_true (p := 0 ≤ j ∧ j ≤ 1000000 ∧ i.natAbs < 2 ^ 64) h) ha hb
/-! ### times -/
def onLM : D → D → Option D
  | .lst xs, .int k => if -(2 ^ 63) ≤ k ∧ k < 2 ^ 63 ∧ xs.length * k.toNat ≤ sizeLine then some (.lst (List.replicate k.toNat xs).flatten) else none
  | _, _ => none
theorem ok_LM : R2Ok C (RF C) rRep onLM := fun S ρ G H x y d dx dy Q m rx ry e q => by
  cases dx <;> try cases e
  rename_i xs
  cases dy <;> try cases e
  rename_i k
  obtain ⟨a, vs, rfl, h1, r1⟩ := rx
  rw [rt_int] at ry
  subst ry
  simp only [onLM] at e
  split at e
  · rename_i hp
    cases e
    refine ⟨a, k, vs, rfl, rfl, h1, hp.1, hp.2.1, by rw [← r1.length]; exact hp.2.2, fun p hp => ?_⟩
    obtain ⟨m2, n2, r⟩ := x_new m (r1.rep _) hp
    exact q _ _ _ _ m2 n2 r
  · cases e
end
end DL

namespace DL
open PySem PySem.Spec PyProof.Rows L2

section
variable {X : Cx} {cls : Nat → Addr} {C : Cn} {W : WX} {a b c e : Expr} {pos : Pos} {δa δb δc δ : De}
/-- == of data, one of which is flat enough -/
def rEqW (K : PySem.W.Frag) : R2 := fun x y H Q => ∃ p q, Dp K H x p ∧ Dp K H y q ∧ p.canLay0 = true ∧ q.canLay0 = true ∧ min p.depth q.depth ≤ 64 ∧ Q (.bl (PyData.eqv p q)) H
def rNeW (K : PySem.W.Frag) : R2 := fun x y H Q => ∃ p q, Dp K H x p ∧ Dp K H y q ∧ p.canLay0 = true ∧ q.canLay0 = true ∧ min p.depth q.depth ≤ 64 ∧ Q (.bl (!PyData.eqv p q)) H
theorem op_eqW (hu : X.A.units + 64 < cLine) : OpR X (compareOp .Eq) (rEqW X.K) := fun pins s σ H x y v u Q I rx ry ⟨p, q, hp, hq, lp, lq, m, k⟩ => by
  obtain ⟨as, r1⟩ := Dp.reads I p x v hp rx
  obtain ⟨bs, r2⟩ := Dp.reads I q y u hq ry
  exact SeqAt.compareEq_reads r1 r2 lp lq (by omega) ⟨.bl _, H, I, rfl, k⟩
theorem op_neW (hu : X.A.units + 64 < cLine) : OpR X (compareOp .NotEq) (rNeW X.K) := fun pins s σ H x y v u Q I rx ry ⟨p, q, hp, hq, lp, lq, m, k⟩ => by
  obtain ⟨as, r1⟩ := Dp.reads I p x v hp rx
  obtain ⟨bs, r2⟩ := Dp.reads I q y u hq ry
  exact SeqAt.compareNe_reads r1 r2 lp lq (by omega) ⟨.bl _, H, I, rfl, k⟩
/-- a comparison's answer is a truth value -/
theorem ok_B {R : R2} {f : D → D → Option D} {g : D → D → Option Bool} (hg : ∀ x y, f x y = (g x y).map D.bl)
    (h : ∀ (S : List D) ρ G H x y dx dy k (Q : VK), MemS C S ρ G H → RT C ρ G H dx x → RT C ρ G H dy y → g dx dy = some k → Q (.bl k) H → R x y H Q) : R2Ok C (RS C) R f := fun S ρ G H x y d dx dy Q m rx ry e q => by
  rw [hg] at e
  cases z : g dx dy with
  | none => rw [z] at e; cases e
  | some k =>
    rw [z] at e; cases e
    exact h S ρ G H x y dx dy k Q m rx ry z (q _ _ _ _ m .refl (rep_bl.mpr rfl))
theorem ok_eq : R2Ok C (RS C) (fun x y H Q => rEqW C.K x y H Q ∨ rEq x y H Q) cEq := ok_B (g := dEq) (fun _ _ => rfl) fun S ρ G H x y dx dy k Q m rx ry e q => by
  rcases dEq_cases dx dy with ⟨a, b, rfl, rfl, z⟩ | z
  · rw [z] at e; cases e
    rw [rt_str] at rx ry; subst rx; subst ry
    exact .inr ⟨rfl, by have w : decide (V.str a = V.str b) = (a == b) := by { rw [Bool.eq_iff_iff]; simp }; rw [w]; exact q⟩
  · rw [z] at e
    unfold dEqP at e
    split at e
    · rename_i p1 p2 h1 h2
      split at e
      · rename_i hs
        cases e
        exact .inl ⟨p1, p2, dp_rt m.sub rx h1, dp_rt m.sub ry h2, hs.1, hs.2.1, hs.2.2, q⟩
      · cases e
    · cases e
theorem ok_ne : R2Ok C (RS C) (fun x y H Q => rNeW C.K x y H Q ∨ rNe x y H Q) cNe := ok_B (g := fun a b => (dEq a b).map not) (fun a b => by unfold cNe; cases dEq a b <;> rfl) fun S ρ G H x y dx dy k Q m rx ry e q => by
  rcases dEq_cases dx dy with ⟨a, b, rfl, rfl, z⟩ | z
  · rw [z] at e; cases e
    rw [rt_str] at rx ry; subst rx; subst ry
    exact .inr ⟨rfl, by have w : decide (V.str a = V.str b) = (a == b) := by { rw [Bool.eq_iff_iff]; simp }; rw [w]; exact q⟩
  · rw [z] at e
    unfold dEqP at e
    split at e
    · rename_i p1 p2 h1 h2
      split at e
      · rename_i hs
        cases e
        exact .inl ⟨p1, p2, dp_rt m.sub rx h1, dp_rt m.sub ry h2, hs.1, hs.2.1, hs.2.2, q⟩
      · cases e
    · cases e
theorem dt_eq (hu : X.A.units + 64 < cLine) (ha : DO X cls W a δa) (hb : DO X cls W b δb) : DT X cls W (.Compare a [.Eq] [b] pos) (tB (eOp cEq δa δb)) := dt_cmp ((op_eqW hu).or op_eq) ok_eq ha hb (nomark _)
theorem dt_ne (hu : X.A.units + 64 < cLine) (ha : DO X cls W a δa) (hb : DO X cls W b δb) : DT X cls W (.Compare a [.NotEq] [b] pos) (tB (eOp cNe δa δb)) := dt_cmp ((op_neW hu).or op_ne) ok_ne ha hb (nomark _)
theorem de_eq (hu : X.A.units + 64 < cLine) (ha : DO X cls W a δa) (hb : DO X cls W b δb) : DE X cls W (.Compare a [.Eq] [b] pos) (eOp cEq δa δb) := de_cmp ((op_eqW hu).or op_eq) ok_eq ha hb (nomark _)
theorem de_ne (hu : X.A.units + 64 < cLine) (ha : DO X cls W a δa) (hb : DO X cls W b δb) : DE X cls W (.Compare a [.NotEq] [b] pos) (eOp cNe δa δb) := de_cmp ((op_neW hu).or op_ne) ok_ne ha hb (nomark _)
/-! order -/
def rOrd (p : Int → Int → Bool) (q : Str → Str → Bool) : R2 := fun x y H Q => (∃ i j, x = .int i ∧ y = .int j ∧ Q (.bl (p i j)) H) ∨ ∃ i j, x = .str i ∧ y = .str j ∧ Q (.bl (q i j)) H
def dOrd (p : Int → Int → Bool) (q : Str → Str → Bool) : D → D → Option D
  | .int i, .int j => some (.bl (p i j))
  | .str i, .str j => some (.bl (q i j))
  | _, _ => none
theorem ok_ord {p : Int → Int → Bool} {q : Str → Str → Bool} : R2Ok C (RS C) (rOrd p q) (dOrd p q) := fun S ρ G H x y d dx dy Q m rx ry e k => by
  cases dx <;> try cases e
  · rename_i i
    cases dy <;> try cases e
    rename_i j
    rw [rt_int] at rx ry
    exact .inl ⟨i, j, rx, ry, k _ _ _ _ m .refl (rep_bl.mpr rfl)⟩
  · rename_i i
    cases dy <;> try cases e
    rename_i j
    rw [rt_str] at rx ry
    exact .inr ⟨i, j, rx, ry, k _ _ _ _ m .refl (rep_bl.mpr rfl)⟩
abbrev oLt : D → D → Option D := dOrd (fun i j => decide (i < j)) fun i j => decide (i.cps.toList < j.cps.toList)
abbrev oLe : D → D → Option D := dOrd (fun i j => decide (i ≤ j)) fun i j => !decide (j.cps.toList < i.cps.toList)
abbrev oGt : D → D → Option D := dOrd (fun i j => decide (j < i)) fun i j => decide (j.cps.toList < i.cps.toList)
abbrev oGe : D → D → Option D := dOrd (fun i j => decide (j ≤ i)) fun i j => !decide (i.cps.toList < j.cps.toList)
theorem or_lt : OpR X (compareOp .Lt) (rOrd (fun i j => decide (i < j)) fun i j => decide (i.cps.toList < j.cps.toList)) := op_lt.or op_lt_str
theorem or_le : OpR X (compareOp .LtE) (rOrd (fun i j => decide (i ≤ j)) fun i j => !decide (j.cps.toList < i.cps.toList)) := op_le.or op_le_str
theorem or_gt : OpR X (compareOp .Gt) (rOrd (fun i j => decide (j < i)) fun i j => decide (j.cps.toList < i.cps.toList)) := op_gt.or op_gt_str
theorem or_ge : OpR X (compareOp .GtE) (rOrd (fun i j => decide (j ≤ i)) fun i j => !decide (i.cps.toList < j.cps.toList)) := op_ge.or op_ge_str
theorem dt_lt (ha : DO X cls W a δa) (hb : DO X cls W b δb) : DT X cls W (.Compare a [.Lt] [b] pos) (tB (eOp oLt δa δb)) := dt_cmp or_lt ok_ord ha hb (nomark _)
theorem dt_le (ha : DO X cls W a δa) (hb : DO X cls W b δb) : DT X cls W (.Compare a [.LtE] [b] pos) (tB (eOp oLe δa δb)) := dt_cmp or_le ok_ord ha hb (nomark _)
theorem dt_gt (ha : DO X cls W a δa) (hb : DO X cls W b δb) : DT X cls W (.Compare a [.Gt] [b] pos) (tB (eOp oGt δa δb)) := dt_cmp or_gt ok_ord ha hb (nomark _)
theorem dt_ge (ha : DO X cls W a δa) (hb : DO X cls W b δb) : DT X cls W (.Compare a [.GtE] [b] pos) (tB (eOp oGe δa δb)) := dt_cmp or_ge ok_ord ha hb (nomark _)
theorem de_lt (ha : DO X cls W a δa) (hb : DO X cls W b δb) : DE X cls W (.Compare a [.Lt] [b] pos) (eOp oLt δa δb) := de_cmp or_lt ok_ord ha hb (nomark _)
theorem de_le (ha : DO X cls W a δa) (hb : DO X cls W b δb) : DE X cls W (.Compare a [.LtE] [b] pos) (eOp oLe δa δb) := de_cmp or_le ok_ord ha hb (nomark _)
theorem de_gt (ha : DO X cls W a δa) (hb : DO X cls W b δb) : DE X cls W (.Compare a [.Gt] [b] pos) (eOp oGt δa δb) := de_cmp or_gt ok_ord ha hb (nomark _)
theorem de_ge (ha : DO X cls W a δa) (hb : DO X cls W b δb) : DE X cls W (.Compare a [.GtE] [b] pos) (eOp oGe δa δb) := de_cmp or_ge ok_ord ha hb (nomark _)
/-- a ≤ b ≤ c -/
def eChain (f g : D → D → Option D) (a b c : De) : De := fun Γ S => (a Γ S).bind fun x S1 => (b Γ S1).bind fun y S2 => (ofO (f (deref S2 x) (deref S2 y)) S2).bind fun k S3 => match asB k with
  | some true => (c Γ S3).bind fun z S4 => ofO (g (deref S4 y) (deref S4 z)) S4
  | some false => .ok (.bl false) S3
  | none => .stuck
/-! is None -/
theorem rep_isNon {ρ : List Addr} {G : Hp} : ∀ {d : D} {v : V}, Rep C ρ G d v → decide (v = .non) = isNon d := fun {d v} h => by
  cases d <;> rw [Rep] at h
  · subst h; rfl
  · subst h; rfl
  · subst h; rfl
  · subst h; rfl
  · obtain ⟨_, _, rfl, _⟩ := h; rfl
  · obtain ⟨_, _, rfl, _⟩ := h; rfl
  · obtain ⟨_, _, rfl, _⟩ := h; rfl
  · obtain ⟨_, _, _, rfl, _⟩ := h; rfl
  · obtain ⟨_, _, rfl⟩ := h; rfl
  · obtain ⟨_, rfl, _⟩ := h; rfl
theorem rt_isNon {ρ : List Addr} {G H : Hp} {d : D} {v : V} (h : RT C ρ G H d v) : decide (v = .non) = isNon d := by
  cases d with
  | lst _ => obtain ⟨_, _, rfl, _⟩ := h; rfl
  | dct _ _ => obtain ⟨_, _, rfl, _⟩ := h; rfl
  | ins _ _ _ => obtain ⟨_, _, _, rfl, _⟩ := h; rfl
  | _ => exact rep_isNon (C := C) (ρ := ρ) (G := G) h
theorem ok_isN : R2Ok C (RS C) (fun x y H Q => y = .non ∧ Q (.bl (decide (x = .non))) H) cIs := fun S ρ G H x y d dx dy Q m rx ry e q => by
  have hy : dy = .non := by cases dy <;> first | rfl | (cases dx <;> cases e)
  subst hy
  rw [rt_non] at ry
  replace e : some (D.bl (isNon dx)) = some d := by cases dx <;> exact e
  cases e
  exact ⟨ry, by rw [rt_isNon rx]; exact q _ _ _ _ m .refl (rep_bl.mpr rfl)⟩
theorem ok_notN : R2Ok C (RS C) (fun x y H Q => y = .non ∧ Q (.bl (!decide (x = .non))) H) cIsNot := fun S ρ G H x y d dx dy Q m rx ry e q => by
  have hy : dy = .non := by cases dy <;> first | rfl | (cases dx <;> cases e)
  subst hy
  rw [rt_non] at ry
  replace e : some (D.bl (!isNon dx)) = some d := by cases dx <;> exact e
  cases e
  exact ⟨ry, by rw [rt_isNon rx]; exact q _ _ _ _ m .refl (rep_bl.mpr rfl)⟩
theorem dt_isN (ha : DO X cls W a δa) (hb : DO X cls W b δb) : DT X cls W (.Compare a [.Is] [b] pos) (tB (eOp cIs δa δb)) := dt_cmp op_isN ok_isN ha hb (nomark _)
theorem dt_notN (ha : DO X cls W a δa) (hb : DO X cls W b δb) : DT X cls W (.Compare a [.IsNot] [b] pos) (tB (eOp cIsNot δa δb)) := dt_cmp op_notN ok_notN ha hb (nomark _)
theorem de_isN (ha : DO X cls W a δa) (hb : DO X cls W b δb) : DE X cls W (.Compare a [.Is] [b] pos) (eOp cIs δa δb) := de_cmp op_isN ok_isN ha hb (nomark _)
theorem de_notN (ha : DO X cls W a δa) (hb : DO X cls W b δb) : DE X cls W (.Compare a [.IsNot] [b] pos) (eOp cIsNot δa δb) := de_cmp op_notN ok_notN ha hb (nomark _)
/-! in -/
theorem rep_flat {ρ : List Addr} {G : Hp} {d : D} {v : V} (f : flatD d = true) (h : Rep C ρ G d v) : flatV v = true ∧ (d = .non ∧ v = .non ∨ (∃ b, d = .bl b ∧ v = .bl b) ∨ (∃ i, d = .int i ∧ v = .int i) ∨ ∃ x, d = .str x ∧ v = .str x) := by
  cases d <;> try cases f
  · rw [rep_non] at h; subst h; exact ⟨rfl, .inl ⟨rfl, rfl⟩⟩
  · rw [rep_bl] at h; subst h; exact ⟨rfl, .inr (.inl ⟨_, rfl, rfl⟩)⟩
  · rw [rep_int] at h; subst h; exact ⟨rfl, .inr (.inr (.inl ⟨_, rfl, rfl⟩))⟩
  · rw [rep_str] at h; subst h; exact ⟨rfl, .inr (.inr (.inr ⟨_, rfl, rfl⟩))⟩
theorem eqV_D {ρ : List Addr} {G : Hp} {d1 d2 : D} {v1 v2 : V} (f1 : flatD d1 = true) (f2 : flatD d2 = true) (h1 : Rep C ρ G d1 v1) (h2 : Rep C ρ G d2 v2) : eqV v1 v2 = eqF d1 d2 := by
  obtain ⟨_, h1⟩ := rep_flat f1 h1
  obtain ⟨_, h2⟩ := rep_flat f2 h2
  rcases h1 with ⟨rfl, rfl⟩ | ⟨_, rfl, rfl⟩ | ⟨_, rfl, rfl⟩ | ⟨_, rfl, rfl⟩ <;> rcases h2 with ⟨rfl, rfl⟩ | ⟨_, rfl, rfl⟩ | ⟨_, rfl, rfl⟩ | ⟨_, rfl, rfl⟩ <;> first | rfl | (unfold eqV eqF; simp) | (unfold eqV eqF; rfl)
theorem reps_flat {ρ : List Addr} {G : Hp} : ∀ {ds : List D} {vs : List V}, Reps C ρ G ds vs → ds.all flatD = true → vs.all flatV = true
  | [], _, h, _ => by rw [h.inv0]; rfl
  | d :: ds, _, h, f => by
    obtain ⟨v, r, rfl, h1, h2⟩ := h.inv
    rw [List.all_cons, Bool.and_eq_true] at f ⊢
    exact ⟨(rep_flat f.1 h1).1, reps_flat h2 f.2⟩
theorem inV_D {ρ : List Addr} {G : Hp} {d : D} {v : V} (f : flatD d = true) (h : Rep C ρ G d v) : ∀ {ds : List D} {vs : List V}, Reps C ρ G ds vs → ds.all flatD = true → inV v vs = inF d ds
  | [], _, h, _ => by rw [h.inv0]; rfl
  | d' :: ds, _, h', f' => by
    obtain ⟨v', r, rfl, h1, h2⟩ := h'.inv
    rw [List.all_cons, Bool.and_eq_true] at f'
    unfold inV inF
    rw [List.any_cons, List.any_cons, eqV_D f'.1 f h1 h]
    exact congrArg _ (inV_D f h h2 f'.2)
def rInA (K : PySem.W.Frag) (neg : Bool) : R2 := fun x y H Q => rIn K neg x y H Q ∨ (if neg then rNotInS x y H Q else rInS x y H Q)
theorem flat_rep {ρ : List Addr} {G H : Hp} {d : D} {v : V} (f : flatD d = true) (h : RT C ρ G H d v) : Rep C ρ G d v := by
  cases d <;> first | exact h | cases f
theorem ok_inG {neg : Bool} {f : D → D → Option D} (hf : ∀ x y, f x y = (dIn x y).map fun k => D.bl (if neg then !k else k)) : R2Ok C (RS C) (rInA C.K neg) f := ok_B (g := fun x y => (dIn x y).map fun k => if neg then !k else k) (fun x y => by rw [hf]; cases dIn x y <;> rfl) fun S ρ G H x y dx dy k Q m rx ry e q => by
  cases z : dIn dx dy with
  | none => rw [z] at e; cases e
  | some k0 =>
    rw [z] at e
    have e : (if neg then !k0 else k0) = k := Option.some.inj e
    subst e
    unfold dIn at z
    split at z
    · rename_i d xs
      split at z
      · rename_i hf
        cases z
        obtain ⟨a, vs, rfl, h1, h2⟩ := ry
        have r := flat_rep hf.1 rx
        refine .inl ⟨a, vs, rfl, .inl (SqL.of h1), (rep_flat hf.1 r).1, reps_flat h2 hf.2, ?_⟩
        rw [inV_D hf.1 r h2 hf.2]; exact q
      · cases z
    · rename_i d xs
      split at z
      · rename_i hf
        cases z
        rw [rt_tup] at ry
        obtain ⟨a, vs, rfl, h1, h2⟩ := ry
        have r := flat_rep hf.1 rx
        refine .inl ⟨a, vs, rfl, .inr (m.sub.sqT h1), (rep_flat hf.1 r).1, reps_flat h2 hf.2, ?_⟩
        rw [inV_D hf.1 r h2 hf.2]; exact q
      · cases z
    · rename_i x y
      split at z
      · rename_i hl
        cases z
        rw [rt_str] at rx ry
        subst rx ry
        obtain ⟨⟨l⟩⟩ := x
        have hl : l.length = 1 := hl
        obtain ⟨c, rfl⟩ : ∃ c, l = [c] := by
          cases l with
          | nil => cases hl
          | cons c r => cases r with
            | nil => exact ⟨c, rfl⟩
            | cons _ _ => cases hl
        refine .inr ?_
        cases neg with
        | true => exact ⟨c, y, rfl, rfl, q⟩
        | false => exact ⟨c, y, rfl, rfl, q⟩
      · cases z
    · cases z
theorem ok_in : R2Ok C (RS C) (rInA C.K false) cIn := ok_inG fun _ _ => rfl
theorem ok_notIn : R2Ok C (RS C) (rInA C.K true) cNotIn := ok_inG fun _ _ => rfl
theorem or_in : OpR X (compareOp .In) (rInA X.K false) := op_in_seq.or op_inS
theorem or_notIn : OpR X (compareOp .NotIn) (rInA X.K true) := op_notIn_seq.or op_notInS
theorem dt_in (ha : DO X cls W a δa) (hb : DO X cls W b δb) (hm : behindInMarks .In b = false) : DT X cls W (.Compare a [.In] [b] pos) (tB (eOp cIn δa δb)) := dt_cmp or_in ok_in ha hb hm
theorem dt_notIn (ha : DO X cls W a δa) (hb : DO X cls W b δb) (hm : behindInMarks .NotIn b = false) : DT X cls W (.Compare a [.NotIn] [b] pos) (tB (eOp cNotIn δa δb)) := dt_cmp or_notIn ok_notIn ha hb hm
theorem de_in (ha : DO X cls W a δa) (hb : DO X cls W b δb) (hm : behindInMarks .In b = false) : DE X cls W (.Compare a [.In] [b] pos) (eOp cIn δa δb) := de_cmp or_in ok_in ha hb hm
theorem de_notIn (ha : DO X cls W a δa) (hb : DO X cls W b δb) (hm : behindInMarks .NotIn b = false) : DE X cls W (.Compare a [.NotIn] [b] pos) (eOp cNotIn δa δb) := de_cmp or_notIn ok_notIn ha hb hm
end
end DL

namespace DL
open PySem PySem.Spec PyProof.Rows L2

/-! ### tuple * int: once, or of nothing -/
theorem tuple_mulS (l : Addr) (items : Array Value) (n : Nat) (dd : Option Addr) (sl : Array (Option Value)) (x : Int) (u : Tok) (c0 : (decide (x < -(2 ^ 63)) || decide (x ≥ 2 ^ 63)) = false) (c1 : (items.isEmpty || x == 1) = true) :
    Meets (Builtin.«tuple.__mul__» ⟨[.ref l, .int x u], []⟩) (fun _ R s => s.heap.get? l = some { cls := .type "tuple", dict := dd, data := .seq items n, slots := sl } ∧ R (.ok (.ret (Value.ref l))) s) :=
  .of_wp fun prog w A R s h => by
    obtain ⟨hp, g, d, tk, os⟩ := s
    obtain ⟨hl, h⟩ := h
    have f1 := AutoSeq1.idx_int
    wp_walk using wpAny_loadPart' hl
    repeat (first
      | (refine wpAny_ite_false (decide_eq_false (by rw [c0]; exact Bool.false_ne_true)) ?_; wp_walk using wpAny_loadPart' hl)
      | (refine wpAny_ite_true (decide_eq_true c1) ?_; wp_walk using wpAny_loadPart' hl))
    exact ⟨_, rfl, h⟩
def rRepS (K : PySem.W.Frag) : R2 := fun x y H Q => ∃ l k xs, x = .ref l ∧ y = .int k ∧ SqT K H l xs ∧ -(2 ^ 63) ≤ k ∧ k < 2 ^ 63 ∧ (xs = [] ∨ k = 1) ∧ Q (.ref l) H
theorem op_repS {X : Cx} : OpR X (binaryOp .Mult) (rRepS X.K) := by
  intro pins s σ H x y v u Q I rx ry h
  obtain ⟨l, k, xs, rfl, rfl, hT, h1, h2, hz, q⟩ := h
  cases rx
  obtain ⟨t, rfl⟩ := ry
  obtain ⟨its, r, ⟨⟨cls, dd, data, sl⟩, ho, hc, n, hd⟩, hs⟩ := I.tuple hT
  simp only at hc hd
  subst hc hd
  have c0 : (decide (k < -(2 ^ 63)) || decide (k ≥ 2 ^ 63)) = false := by
    rw [decide_eq_false (by omega), decide_eq_false (by omega)] <;> rfl
  have c1 : (its.toArray.isEmpty || k == 1) = true := by
    rcases hz with rfl | rfl
    · cases r; rfl
    · simp
  exact wpAny_binaryOp_repeat_ref (T := "tuple") (U := "int") (by decide) ⟨_, ho, rfl⟩ (fun s' => typeIs_int s' k t) noFill_tuple_mul F.fills_int_mul F.slot_int_rmul repeat_tuple F.slot_int_index.lookup
    (call_meets F.slot_int_rmul (typeIs_int s k t) F.entry_int_rmul (F.args_int_rmul_2 _ _) (int_rmul_tuple k t l its.toArray n dd sl)
      ⟨ho, rfl, ⟨_, ho, rfl⟩, call_meets F.slot_tuple_mul ⟨_, ho, rfl⟩ F.entry_tuple_mul (F.args_tuple_mul_2 _ _) (tuple_mulS l its.toArray n dd sl k t c0 c1) ⟨ho, ⟨.ref l, H, I, rfl, q⟩⟩⟩)

section
variable {X : Cx} {cls : Nat → Addr} {C : Cn} {W : WX} {a b c e : Expr} {pos : Pos} {δa δb δc δ : De}
def onTM : D → D → Option D
  | .tup xs, .int k => if 1 ≤ k ∧ k ≤ 1000 ∧ xs.length ≤ 1000 then some (.tup (List.replicate k.toNat xs).flatten) else none
  | _, _ => none
theorem ok_TM : R2Ok C (RS C) (fun x y H Q => rRepS C.K x y H Q ∨ rRepT C.K x y H Q) onTM := fun S ρ G H x y d dx dy Q m rx ry e q => by
  cases dx <;> try cases e
  rename_i xs
  cases dy <;> try cases e
  rename_i k
  rw [rt_tup] at rx
  obtain ⟨a, vs, rfl, h1, r1⟩ := rx
  rw [rt_int] at ry
  subst ry
  simp only [onTM] at e
  split at e
  · rename_i hp
    cases e
    have hl := r1.length
    by_cases hx : vs = []
    · subst hx
      have e0 : xs = [] := by cases xs with
        | nil => rfl
        | cons _ _ => cases hl
      subst e0
      refine .inl ⟨a, k, [], rfl, rfl, m.sub.sqT h1, by omega, by omega, .inl rfl, q _ _ _ _ m .refl (rep_tup.mpr ⟨a, [], rfl, h1, ?_⟩)⟩
      have z : (List.replicate k.toNat ([] : List D)).flatten = [] := by induction k.toNat with
        | zero => rfl
        | succ n ih => rw [List.replicate_succ, List.flatten_cons, ih]; rfl
      rw [z]; exact .nil
    · by_cases hk : k = 1
      · subst hk
        refine .inl ⟨a, 1, vs, rfl, rfl, m.sub.sqT h1, by decide, by decide, .inr rfl, q _ _ _ _ m .refl (rep_tup.mpr ⟨a, vs, rfl, h1, ?_⟩)⟩
        simpa using r1
      · refine .inr ⟨a, k, vs, rfl, rfl, m.sub.sqT h1, hx, by omega, hp.2.1, by omega, fun p hpn => ?_⟩
        obtain ⟨G2, m2, n2, r⟩ := x_newT m (r1.rep k.toNat) hpn
        exact q _ _ _ _ m2 n2 r
  · cases e
theorem dMul_cases (a b d : D) (h : dMul a b = some d) : fMulI a b = some d ∨ onLM a b = some d ∨ onTM a b = some d := by
  cases a <;> cases b <;> first
    | exact .inr (.inl h)
    | exact .inr (.inr h)
    | (cases h; done)
    | (refine .inl ?_
       simp only [dMul] at h
       split at h
       · rename_i hm
         show (if decide (mulOk _ _) = true then _ else _) = _
         rw [if_pos (decide_eq_true hm)]; exact h
       · cases h)
theorem de_mul (ha : DO X cls W a δa) (hb : DO X cls W b δb) : DE X cls W (.BinOp a .Mult b pos) (eOp dMul δa δb) :=
  de_op (op_mul.or (op_rep.or (op_repS.or op_repT))) ((ok_I fun i j h => of_decide_eq_true (p := mulOk i j) h).or (g := dMul) (f' := fun a b => if (onLM a b).isSome then onLM a b else onTM a b) ((rf_rs ok_LM).or (f' := onTM) ok_TM (fun a b d h => by
      by_cases z : (onLM a b).isSome
      · rw [if_pos z] at h; exact .inl h
      · rw [if_neg z] at h; exact .inr h)) (fun a b d h => by
      rcases dMul_cases a b d h with h | h | h
      · exact .inl h
      · exact .inr (by rw [h]; rfl)
      · exact .inr (by cases a <;> cases b <;> first | cases h | (show (if (Option.isSome none) = true then _ else _) = _; exact h)))) ha hb
theorem de_neg (ha : DO X cls W a δa) : DE X cls W (.UnaryOp .USub a pos) (eUn dNeg δa) := de_un un_neg (fun S ρ G H x d dx Q m rx e q => by
  cases dx <;> try cases e
  rw [rt_int] at rx
  subst rx
  exact ⟨_, rfl, q _ _ _ _ m .refl (rep_int.mpr rfl)⟩) ha

/-! ### places -/
theorem atI_reps {ρ : List Addr} {G : Hp} {ds : List D} {vs : List V} (r : Reps C ρ G ds vs) {i : Int} {d : D} (h : atI ds i = some d) : ∃ v, atI vs i = some v ∧ Rep C ρ G d v := by
  unfold atI at h ⊢
  rw [r.length] at h
  cases z : ixN vs.length i with
  | none => rw [z] at h; cases h
  | some j =>
    rw [z] at h
    obtain ⟨v, hv, rv⟩ := r.get (i := j) h
    exact ⟨v, hv, rv⟩
theorem atI_map {α β : Type} (f : α → β) (xs : List α) (i : Int) : atI (xs.map f) i = (atI xs i).map f := by
  unfold atI
  rw [List.length_map]
  cases ixN xs.length i with
  | none => rfl
  | some j => simp
theorem ok_ix : R2Ok C (RS C) (rIx C.K) dIdx := fun S ρ G H x y d dx dy Q m rx ry e q => by
  cases dx <;> try cases e
  · cases dy <;> try cases e
    rename_i x i
    rw [rt_str] at rx; rw [rt_int] at ry
    subst rx ry
    simp only [dIdx] at e
    split at e
    · rename_i hz
      cases z : atI x.cps.toList i with
      | none => rw [z] at e; cases e
      | some c =>
        rw [z] at e; cases e
        exact .inr (.inr ⟨x, i, c, rfl, rfl, hz, z, q _ _ _ _ m .refl (rep_str.mpr rfl)⟩)
    · cases e
  · cases dy <;> try cases e
    rename_i xs i
    rw [rt_int] at ry
    subst ry
    obtain ⟨a, vs, rfl, h1, r1⟩ := rx
    obtain ⟨v, hv, rv⟩ := atI_reps r1 (show atI xs i = some d from e)
    exact .inl ⟨a, vs, i, v, rfl, rfl, SqL.of h1, hv, q _ _ _ _ m .refl rv⟩
  · cases dy <;> try cases e
    rename_i xs i
    rw [rt_int] at ry
    subst ry
    rw [rt_tup] at rx
    obtain ⟨a, vs, rfl, h1, r1⟩ := rx
    obtain ⟨v, hv, rv⟩ := atI_reps r1 (show atI xs i = some d from e)
    exact .inr (.inl ⟨a, vs, i, v, rfl, rfl, m.sub.sqT h1, hv, q _ _ _ _ m .refl rv⟩)
  · cases dy <;> try cases e
    rename_i xs i
    rw [rt_int] at ry
    subst ry
    rw [rt_scr] at rx
    obtain ⟨a, rfl, h1⟩ := rx
    replace e : (atI xs i).map D.int = some d := e
    cases z : atI xs i with
    | none => rw [z] at e; cases e
    | some n =>
      rw [z] at e; cases e
      exact .inl ⟨a, _, i, .int n, rfl, rfl, m.sub.sqL h1, by rw [atI_map, z]; rfl, q _ _ _ _ m .refl (rep_int.mpr rfl)⟩
theorem de_sub_ (ha : DO X cls W a δa) (hb : DO X cls W b δb) (hs : PlainIx b := by exact fun _ _ => rfl) : DE X cls W (.Subscript a b pos) (eOp dIdx δa δb) := de_ix ix_seq ok_ix ha hb hs

/-! ### slices -/
def RQ {α : Type} : RVT α α := fun _ _ _ _ a b => a = b
theorem back_RQ {α : Type} : Back (RQ (α := α)) := fun _ _ _ _ _ _ _ _ h => h
abbrev Dp_ := List Sl → List D → Res (Option Int)
def tP (C : Cn) (W : WX) (δ : Dp_) : TO := fun σ H Q => ∃ Γ S ρ G, Mem C Γ S ρ G H σ ∧ Post C W RQ Γ ρ G H σ (δ Γ S) Q
def DP (X : Cx) (cls : Nat → Addr) (W : WX) (e : Option Expr) (δ : Dp_) : Prop := PO X e (tP ⟨X.K, cls⟩ W δ)
theorem PO.weak {X : Cx} {e : Option Expr} {t t' : TO} (h : PO X e t) (i : ∀ σ H Q, t' σ H Q → t σ H Q) : PO X e t' := ⟨fun pins s σ H Q I h' => h.run pins s σ H Q I (i σ H Q h')⟩
def pNo : Dp_ := fun _ S => .ok none S
def asI : D → Option Int | .int i => some i | _ => none
def pSo (a : De) : Dp_ := fun Γ S => (a Γ S).bind fun x S1 => ofO ((asI x).map some) S1
theorem dp_no : DP X cls W none pNo := PO.weak po_none fun σ H Q ⟨Γ, S, ρ, G, m, p⟩ => p.at m rfl
theorem dp_so (ha : DE X cls W a δa) : DP X cls W (some a) (pSo δa) := PO.weak (po_some ha) fun σ H Q ⟨Γ, S, ρ, G, m, p⟩ => ⟨Γ, S, ρ, G, m, (Post.seq back_RQ p).mono fun x H1 ⟨dx, S1, ρ1, G1, m1, n1, r1, p1⟩ => by
  obtain ⟨k, hk, p2⟩ := ofO_post p1
  cases dx <;> try cases hk
  exact ⟨_, rep_int.mp r1, p2.at m1 rfl⟩⟩
def dCut (d : D) (lo hi : Option Int) : Option D := match d with
  | .lst xs => some (.lst (cutD xs lo hi))
  | .tup xs => some (.tup (cutD xs lo hi))
  | .str x => if x.length ≤ sizeLine then some (.str (cutS x lo hi)) else none
  | _ => none
def onlyL (d : D) (lo hi : Option Int) : Option D := match d with
  | .lst xs => some (.lst (cutD xs lo hi))
  | _ => none
def eCut (f : D → Option Int → Option Int → Option D) (a : De) (lo hi : Dp_) : De := fun Γ S => (a Γ S).bind fun x S1 => (lo Γ S1).bind fun l S2 => (hi Γ S2).bind fun h S3 => ofO (f (deref S3 x) l h) S3
theorem Reps.cut {ρ : List Addr} {G : Hp} {ds : List D} {vs : List V} (r : Reps C ρ G ds vs) (lo hi : Option Int) : Reps C ρ G (cutD ds lo hi) (cutV vs lo hi) := by
  unfold cutD cutV
  rw [r.length]
  exact (r.drop _).take _
theorem x_cut {RV : RVT D V} (bk : Back RV) {lo hi : Dp_} {R : V → Option Int → Option Int → Hp → VK → Prop} {f : D → Option Int → Option Int → Option D}
    (ho : ∀ (S : List D) ρ G H x dx l h d (Q : VK), MemS ⟨X.K, cls⟩ S ρ G H → RT ⟨X.K, cls⟩ ρ G H dx x → f dx l h = some d → (∀ v ρ' G' H', MemS ⟨X.K, cls⟩ S ρ' G' H' → Nx ρ G H ρ' G' H' → RV H ρ' G' H' d v → Q v H') → R x l h H Q)
    {σ : L2.St} {H : Hp} {Q : VK} (h : tE ⟨X.K, cls⟩ W RV (eCut f δa lo hi) σ H Q) : tSl R (tE ⟨X.K, cls⟩ W (RO ⟨X.K, cls⟩) δa) (tP ⟨X.K, cls⟩ W lo) (tP ⟨X.K, cls⟩ W hi) σ H Q := by
  obtain ⟨Γ, S, ρ, G, m, p⟩ := h
  refine ⟨Γ, S, ρ, G, m, (Post.seq bk p).mono fun x H1 ⟨dx, S1, ρ1, G1, m1, n1, r1, p1⟩ => ⟨Γ, S1, ρ1, G1, m1, (Post.seq (RV := RQ) bk p1).mono fun l H2 ⟨l', S2, ρ2, G2, m2, n2, r2, p2⟩ => ⟨Γ, S2, ρ2, G2, m2, (Post.seq (RV := RQ) bk p2).mono fun h H3 ⟨h', S3, ρ3, G3, m3, n3, r3, p3⟩ => ?_⟩⟩⟩
  have e2 : l' = l := r2
  have e3 : h' = h := r3
  subst e2 e3
  obtain ⟨d, hd, p4⟩ := ofO_post p3
  exact ho S3 ρ3 G3 H3 x _ l' h' d Q m3.toS (m3.read (H0 := H1) ((r1.step (H1 := H1) n2).step n3)) hd fun v ρ' G' H' m' n' r' => p4.here (m3.step n' m') n' r'
theorem de_cut {lo hi : Option Expr} {δl δh : Dp_} {p2 : Pos} (ha : DO X cls W a δa) (hl : DP X cls W lo δl) (hh : DP X cls W hi δh) : DE X cls W (.Subscript a (.Slice lo hi none p2) pos) (eCut dCut δa δl δh) :=
  PE.weak (pe_slice (sl_list.or (sl_tupA.or sl_str)) ha hl hh) fun σ H Q h => x_cut back_RS (fun S ρ G H x dx l h d Q m rx e q => by
    cases dx <;> try cases e
    · rw [rt_str] at rx
      subst rx
      simp only [dCut] at e
      split at e
      · rename_i hz
        cases e
        exact .inr (.inr ⟨_, rfl, hz, q _ _ _ _ m .refl (rep_str.mpr rfl)⟩)
      · cases e
    · obtain ⟨a, vs, rfl, h1, r1⟩ := rx
      refine .inl ⟨a, vs, rfl, SqL.of h1, fun p hp => ?_⟩
      obtain ⟨m2, n2, r⟩ := x_new m (r1.cut l h) hp
      obtain ⟨G2, m3, n3, r3⟩ := RF.settle m n2 m2 r
      exact q _ _ _ _ m3 n3 r3
    · rw [rt_tup] at rx
      obtain ⟨a, vs, rfl, h1, r1⟩ := rx
      refine .inr (.inl ⟨a, vs, rfl, m.sub.sqT h1, fun hw => ?_, fun _ p hp => ?_⟩)
      · have z : cutV vs l h = vs := by
          unfold cutV
          rw [hw.1, hw.2]; simp
        exact q _ _ _ _ m .refl (rep_tup.mpr ⟨a, vs, rfl, h1, by rw [← z]; exact r1.cut l h⟩)
      · obtain ⟨G2, m2, n2, r⟩ := x_newT m (r1.cut l h) hp
        exact q _ _ _ _ m2 n2 r) h
theorem df_cut {lo hi : Option Expr} {δl δh : Dp_} {p2 : Pos} (ha : DO X cls W a δa) (hl : DP X cls W lo δl) (hh : DP X cls W hi δh) : DF X cls W (.Subscript a (.Slice lo hi none p2) pos) (eCut onlyL δa δl δh) :=
  PE.weak (pe_slice sl_list ha hl hh) fun σ H Q h => x_cut back_RF (fun S ρ G H x dx l h d Q m rx e q => by
    cases dx <;> try cases e
    obtain ⟨a, vs, rfl, h1, r1⟩ := rx
    refine ⟨a, vs, rfl, SqL.of h1, fun p hp => ?_⟩
    obtain ⟨m2, n2, r⟩ := x_new m (r1.cut l h) hp
    exact q _ _ _ _ m2 n2 r) h

/-! ### built-in calls -/
def RC1 (C : Cn) (RV : RVT D V) (R : List V → Hp → VK → Prop) (f : D → Option D) : Prop := ∀ (S : List D) (ρ : List Addr) (G H : Hp) (x : V) (d dx : D) (Q : VK), MemS C S ρ G H → RT C ρ G H dx x → f dx = some d →
  (∀ v ρ' G' H', MemS C S ρ' G' H' → Nx ρ G H ρ' G' H' → RV H ρ' G' H' d v → Q v H') → R [x] H Q
def RC2 (C : Cn) (RV : RVT D V) (R : List V → Hp → VK → Prop) (f : D → D → Option D) : Prop := ∀ (S : List D) (ρ : List Addr) (G H : Hp) (x y : V) (d dx dy : D) (Q : VK), MemS C S ρ G H → RT C ρ G H dx x → RT C ρ G H dy y → f dx dy = some d →
  (∀ v ρ' G' H', MemS C S ρ' G' H' → Nx ρ G H ρ' G' H' → RV H ρ' G' H' d v → Q v H') → R [x, y] H Q
theorem x_c1 {RV : RVT D V} (bk : Back RV) {R : List V → Hp → VK → Prop} {f : D → Option D} (h : PE X e (tCB R (tCons (tE ⟨X.K, cls⟩ W (RO ⟨X.K, cls⟩) δa) tNil))) (ho : RC1 ⟨X.K, cls⟩ RV R f) : PE X e (tE ⟨X.K, cls⟩ W RV (eUn f δa)) :=
  PE.weak h fun σ H Q h => x_un (R := fun x H Q => R [x] H Q) bk (fun S ρ G H x d dx Q m rx e q => ho S ρ G H x d dx Q m rx e q) h
theorem x_c2 {RV : RVT D V} (bk : Back RV) {R : List V → Hp → VK → Prop} {f : D → D → Option D} (h : PE X e (tCB R (tCons (tE ⟨X.K, cls⟩ W (RO ⟨X.K, cls⟩) δa) (tCons (tE ⟨X.K, cls⟩ W (RO ⟨X.K, cls⟩) δb) tNil)))) (ho : RC2 ⟨X.K, cls⟩ RV R f) : PE X e (tE ⟨X.K, cls⟩ W RV (eOp f δa δb)) :=
  PE.weak h fun σ H Q h => x_op (R := fun x y H Q => R [x, y] H Q) bk (fun S ρ G H x y d dx dy Q m rx ry e q => ho S ρ G H x y d dx dy Q m rx ry e q) h
theorem da1 (ha : DO X cls W a δa) (hs : starEach [a] X.env = (false, eval a X.env) :: starEach [] X.env := by rfl) : PA X [a] (tCons (tE ⟨X.K, cls⟩ W (RO ⟨X.K, cls⟩) δa) tNil) := pa_cons ha pa_nil hs
theorem da2 (ha : DO X cls W a δa) (hb : DO X cls W b δb) (hs : starEach [a, b] X.env = (false, eval a X.env) :: starEach [b] X.env := by rfl) (hs2 : starEach [b] X.env = (false, eval b X.env) :: starEach [] X.env := by rfl) : PA X [a, b] (tCons (tE ⟨X.K, cls⟩ W (RO ⟨X.K, cls⟩) δa) (tCons (tE ⟨X.K, cls⟩ W (RO ⟨X.K, cls⟩) δb) tNil)) := pa_cons ha (pa_cons hb pa_nil hs2) hs
theorem rc_len : RC1 C (RS C) (fun xs H Q => (∃ p ys, xs = [.ref p] ∧ (SqL C.K H p ys ∨ SqT C.K H p ys) ∧ Q (.int ys.length) H) ∨ ∃ z, xs = [.str z] ∧ z.length ≤ sizeLine ∧ Q (.int z.length) H) dLen := fun S ρ G H x d dx Q m rx e q => by
  cases dx <;> try cases e
  · rw [rt_str] at rx; subst rx
    simp only [dLen] at e
    split at e
    · cases e; exact .inr ⟨_, rfl, by assumption, q _ _ _ _ m .refl (rep_int.mpr rfl)⟩
    · cases e
  · obtain ⟨a, vs, rfl, h1, r1⟩ := rx
    exact .inl ⟨a, vs, rfl, .inl (SqL.of h1), q _ _ _ _ m .refl (rep_int.mpr (by rw [r1.length]))⟩
  · rw [rt_tup] at rx
    obtain ⟨a, vs, rfl, h1, r1⟩ := rx
    exact .inl ⟨a, vs, rfl, .inr (m.sub.sqT h1), q _ _ _ _ m .refl (rep_int.mpr (by rw [r1.length]))⟩
  · rw [rt_scr] at rx
    obtain ⟨a, rfl, h1⟩ := rx
    exact .inl ⟨a, _, rfl, .inl (m.sub.sqL h1), q _ _ _ _ m .refl (rep_int.mpr (by rw [List.length_map]))⟩
variable {p : Pos}
theorem de_len (hg : Gl X "len") (hm : X.mg "len" = none) (ha : DO X cls W a δa) (he : starEach [a] X.env = (false, eval a X.env) :: starEach [] X.env := by rfl) (hpl : (backTo pos (starEach [] X.env)).any (·.1) = false := by rfl) : DE X cls W (.Call (.Name "len" p) [a] [] pos) (eUn dLen δa) :=
  x_c1 back_RS (pe_callB (call_len_seq.or call_len_str) hg hm PySem.boot_len (da1 ha he) (by decide) (by decide) he hpl) rc_len
def dInt : D → Option D
  | .int i => some (.int i)
  | .bl b => some (.int (if b then 1 else 0))
  | .str x => if x.length ≤ 640 then (PySem.intText? x).map .int else none
  | _ => none
theorem rc_int : RC1 C (RS C) (fun xs H Q => ((∃ i, xs = [.int i] ∧ Q (.int i) H) ∨ ∃ k, xs = [.bl k] ∧ Q (.int (if k then 1 else 0)) H) ∨ ∃ a n, xs = [.str a] ∧ PySem.intText? a = some n ∧ a.length ≤ 640 ∧ Q (.int n) H) dInt := fun S ρ G H x d dx Q m rx e q => by
  cases dx <;> try cases e
  · rw [rt_bl] at rx; subst rx; exact .inl (.inr ⟨_, rfl, q _ _ _ _ m .refl (rep_int.mpr rfl)⟩)
  · rw [rt_int] at rx; subst rx; exact .inl (.inl ⟨_, rfl, q _ _ _ _ m .refl (rep_int.mpr rfl)⟩)
  · rename_i x
    rw [rt_str] at rx; subst rx
    simp only [dInt] at e
    split at e
    · cases z : PySem.intText? x with
      | none => rw [z] at e; cases e
      | some n => rw [z] at e; cases e; exact .inr ⟨_, n, rfl, z, by assumption, q _ _ _ _ m .refl (rep_int.mpr rfl)⟩
    · cases e
theorem de_intc (hg : Gl X "int") (hm : X.mg "int" = none) (ha : DO X cls W a δa) (he : starEach [a] X.env = (false, eval a X.env) :: starEach [] X.env := by rfl) (hpl : (backTo pos (starEach [] X.env)).any (·.1) = false := by rfl) : DE X cls W (.Call (.Name "int" p) [a] [] pos) (eUn dInt δa) :=
  x_c1 back_RS (pe_callTy (call_int1.or call_int_str) hg hm (by decide +kernel) (da1 ha he) (by decide) (by decide) he hpl) rc_int
def dTuple : D → Option D
  | .lst xs => some (.tup xs)
  | .tup xs => some (.tup xs)
  | _ => none
theorem rc_tuple : RC1 C (RS C) (fun xs H Q => ∃ p ys, xs = [.ref p] ∧ ((SqL C.K H p ys ∧ ∀ l, H l = none → Q (.ref l) (upd H l (.tup ys))) ∨ (SqT C.K H p ys ∧ Q (.ref p) H))) dTuple := fun S ρ G H x d dx Q m rx e q => by
  cases dx <;> try cases e
  · obtain ⟨a, vs, rfl, h1, r1⟩ := rx
    refine ⟨a, vs, rfl, .inl ⟨SqL.of h1, fun l hl => ?_⟩⟩
    obtain ⟨G2, m2, n2, r⟩ := x_newT m r1 hl
    exact q _ _ _ _ m2 n2 r
  · rw [rt_tup] at rx
    obtain ⟨a, vs, rfl, h1, r1⟩ := rx
    exact ⟨a, vs, rfl, .inr ⟨m.sub.sqT h1, q _ _ _ _ m .refl (rep_tup.mpr ⟨a, vs, rfl, h1, r1⟩)⟩⟩
theorem de_tuple (hg : Gl X "tuple") (hm : X.mg "tuple" = none) (ha : DO X cls W a δa) (he : starEach [a] X.env = (false, eval a X.env) :: starEach [] X.env := by rfl) (hpl : (backTo pos (starEach [] X.env)).any (·.1) = false := by rfl) : DE X cls W (.Call (.Name "tuple" p) [a] [] pos) (eUn dTuple δa) :=
  x_c1 back_RS (pe_callTy call_tuple_of hg hm (by decide +kernel) (da1 ha he) (by decide) (by decide) he hpl) rc_tuple
def dList : D → Option D
  | .lst xs => some (.lst xs)
  | .tup xs => some (.lst xs)
  | _ => none
theorem rc_list : RC1 C (RF C) (fun xs H Q => ∃ p ys, xs = [.ref p] ∧ (SqL C.K H p ys ∨ SqT C.K H p ys) ∧ ∀ l, H l = none → Q (.ref l) (upd H l (.lst ys))) dList := fun S ρ G H x d dx Q m rx e q => by
  cases dx <;> try cases e
  · obtain ⟨a, vs, rfl, h1, r1⟩ := rx
    refine ⟨a, vs, rfl, .inl (SqL.of h1), fun l hl => ?_⟩
    obtain ⟨m2, n2, r⟩ := x_new m r1 hl
    exact q _ _ _ _ m2 n2 r
  · rw [rt_tup] at rx
    obtain ⟨a, vs, rfl, h1, r1⟩ := rx
    refine ⟨a, vs, rfl, .inr (m.sub.sqT h1), fun l hl => ?_⟩
    obtain ⟨m2, n2, r⟩ := x_new m r1 hl
    exact q _ _ _ _ m2 n2 r
theorem df_list (hg : Gl X "list") (hm : X.mg "list" = none) (ha : DO X cls W a δa) (he : starEach [a] X.env = (false, eval a X.env) :: starEach [] X.env := by rfl) (hpl : (backTo pos (starEach [] X.env)).any (·.1) = false := by rfl) : DF X cls W (.Call (.Name "list" p) [a] [] pos) (eUn dList δa) :=
  x_c1 back_RF (pe_callTy call_list_of hg hm (by decide +kernel) (da1 ha he) (by decide) (by decide) he hpl) rc_list
/-! isinstance -/
def tyN : D → Option String
  | .non => some "NoneType" | .bl _ => some "bool" | .int _ => some "int" | .str _ => some "str" | .lst _ => some "list" | .tup _ => some "tuple" | .dct _ _ => some "dict" | .scr _ => some "list" | _ => none
def dIsi (T : String) (d : D) : Option D := (tyN d).bind fun t => (kitB t T).map .bl
theorem rt_tyN {ρ : List Addr} {G H : Hp} (e : SubH C G H) {d : D} {v : V} {t : String} (h : RT C ρ G H d v) (k : tyN d = some t) : TyX C.K H v (.type t) := by
  cases d <;> cases k
  · rw [rt_non] at h; subst h; exact .base .non
  · rw [rt_bl] at h; subst h; exact .base (.bl _)
  · rw [rt_int] at h; subst h; exact .base (.int _)
  · rw [rt_str] at h; subst h; exact .base (.str _)
  · obtain ⟨a, vs, rfl, h1, _⟩ := h; exact .base (.lst h1)
  · rw [rt_tup] at h
    obtain ⟨a, vs, rfl, h1, _⟩ := h
    rcases e.sqT h1 with (h1 | ⟨o, h1⟩) | ⟨o, its, n, h1, h2, _⟩
    · exact .base (.tup h1)
    · exact .fTuple h1
    · exact .kTuple h1 h2
  · obtain ⟨a, vs, rfl, h1 | ⟨o, h1⟩, _⟩ := h
    · exact .base (.dK h1)
    · exact .fDict h1
  · rw [rt_scr] at h
    obtain ⟨a, rfl, h1⟩ := h
    rcases e.sqL h1 with (h1 | ⟨o, h1⟩) | ⟨o, its, n, h1, h2, _⟩
    · exact .base (.lst h1)
    · exact .base (.frz h1)
    · exact .kList h1 h2
theorem de_isi {T : String} {y : Str} {p2 : Pos} (hg : Gl X "isinstance") (hm : X.mg "isinstance" = none) (hgT : Gl X y) (hmT : X.mg y = none) (hvT : bootBuiltins y = some (.type T)) (ha : DO X cls W a δa)
    (hn : y ≠ "__name__" := by decide) (hdb : (y == ("__debug__" : Str)) = false := by decide)
    (he : starEach [a, .Name y p2] X.env = (false, eval a X.env) :: starEach [.Name y p2] X.env := by rfl) (he2 : starEach [.Name y p2] X.env = (false, eval (.Name y p2) X.env) :: starEach [] X.env := by rfl) (hpl : (backTo pos (starEach [.Name y p2] X.env)).any (·.1) = false := by rfl) :
    DE X cls W (.Call (.Name "isinstance" p) [a, .Name y p2] [] pos) (eUn (dIsi T) δa) :=
  PE.weak (pe_callB call_isi hg hm (by decide +kernel) (pa_cons ha (pa_cons (pe_bltn (v := .ty T) hgT hmT hvT rfl hn hdb) pa_nil he2) he) (by decide) (by decide) he hpl) fun σ H Q h =>
    x_un (R := fun x H Q => rIsi X.K [x, .ty T] H Q) back_RS (fun S ρ G H x d dx Q m rx e q => by
      unfold dIsi at e
      cases k : tyN dx with
      | none => rw [k] at e; cases e
      | some t =>
        rw [k] at e
        cases z : kitB t T with
        | none => simp only [Option.bind_some, z] at e; cases e
        | some b =>
          simp only [Option.bind_some, z] at e; cases e
          exact ⟨x, .ty T, _, _, b, rfl, .ty T, rt_tyN m.sub rx k, kit_ty z, q _ _ _ _ m .refl (rep_bl.mpr rfl)⟩) h
end
end DL

namespace DL
open PySem PySem.Spec PyProof.Rows L2

/-! ### statements -/
/-- what is locked stays so -/
def Old (H H' : Hp) : Prop := ∀ a ob u, H a = some (.frz ob u) → H' a = some (.frz ob u)
theorem Old.refl {H : Hp} : Old H H := fun _ _ _ h => h
theorem Old.trans {H H1 H2 : Hp} (x : Old H H1) (y : Old H1 H2) : Old H H2 := fun a ob u h => y a ob u (x a ob u h)
theorem ObAt.nofrz {C : Cn} {ρ : List Addr} {G H : Hp} {a : Addr} {ob : Obj} {u : HO} : ∀ {d : D}, ObAt C ρ G H a d → H a ≠ Option.some (HO.frz ob u)
  | .lst xs, ⟨vs, h, _⟩ => by rw [h]; exact fun z => (nomatch z)
  | .dct ks xs, ⟨vs, h, _⟩ => by rw [h]; exact fun z => (nomatch z)
  | .ins c ns xs, ⟨dx, vs, h, _⟩ => by rw [h]; exact fun z => (nomatch z)
theorem Mem.nofrz {C : Cn} {Γ : List Sl} {S : List D} {ρ : List Addr} {G H : Hp} {σ : L2.St} (m : Mem C Γ S ρ G H σ) {a : Addr} {ob : Obj} {u : HO} (h : H a = some (.frz ob u)) : a ∉ ρ := fun z => by
  obtain ⟨i, hi⟩ := List.mem_iff_getElem?.mp z
  have hi2 : i < S.length := by rw [← m.len]; exact (List.getElem?_eq_some_iff.mp hi).1
  obtain ⟨b, hb, r⟩ := m.sto i S[i] (List.getElem?_eq_getElem hi2)
  rw [hi] at hb; cases hb
  exact r.nofrz h
theorem old_of {C : Cn} {Γ : List Sl} {S : List D} {ρ ρ' : List Addr} {G H G' H' : Hp} {σ : L2.St} (m : Mem C Γ S ρ G H σ) (n : Nx ρ G H ρ' G' H') : Old H H' := fun a ob u h => n.keep a _ (fun _ z => nomatch z) h (m.nofrz h)
/-- an entry (a def's), and what has been settled since a loop began -/
structure Ent where
  ρ : List Addr
  G : Hp
  H : Hp
  B : Hp
  R : List Addr
  F : Hp
structure SI (C : Cn) (en : Ent) (Γ : List Sl) (S : List D) (ρ : List Addr) (G H : Hp) (σ : L2.St) : Prop where
  mem : Mem C Γ S ρ G H σ
  nx : Nx en.ρ en.G en.H ρ G H
  frs : ∀ (i : Nat) (d : D) (a : Addr), Γ[i]? = some (Sl.own d) → σ[i]? = some (some (V.ref a)) → en.H a = none
  base : Sub en.B G
  basr : en.R <+: ρ
  old : Old en.F H
section
variable {C : Cn} {W : WX} {en : Ent} {Γ Γ' : List Sl} {S S' : List D} {ρ ρ' : List Addr} {G G' H H' : Hp} {σ σ' : L2.St}
theorem SI.step (i : SI C en Γ S ρ G H σ) (m : Mem C Γ S' ρ' G' H' σ) (n : Nx ρ G H ρ' G' H') : SI C en Γ S' ρ' G' H' σ := ⟨m, i.nx.trans n, i.frs, i.base.trans n.ext, i.basr.trans n.pre, i.old.trans (old_of i.mem n)⟩
/-- what is wanted behind a statement -/
def PostS (C : Cn) (W : WX) (en : Ent) (D : Ends) : Out → Prop
  | .next Γ S => ∀ ρ G H σ, SI C en Γ S ρ G H σ → D.nx σ H
  | .brk Γ S => ∀ ρ G H σ, SI C en Γ S ρ G H σ → D.bk σ H
  | .cont Γ S => ∀ ρ G H σ, SI C en Γ S ρ G H σ → D.ct σ H
  | .ret d S => ∀ v ρ G H, MemS C S ρ G H → Nx en.ρ en.G en.H ρ G H → Sub en.B G ∧ Old en.F H → Rep C ρ G d v → D.rt v H
  | .exc e Γ S => ∀ cls dx ρ G H σ, SI C en Γ S ρ G H σ → ExRep C ρ G H e cls dx → W cls dx σ H
  | .stuck => False
def tS (C : Cn) (W : WX) (δ : Ds) : TS := fun D σ H => ∃ en Γ S ρ G, SI C en Γ S ρ G H σ ∧ PostS C W en D (δ Γ S)
def DS (X : Cx) (cls : Nat → Addr) (W : WX) (st : Stmt) (δ : Ds) : Prop := PS X st (tS ⟨X.K, cls⟩ W δ)
def DSs (X : Cx) (cls : Nat → Addr) (W : WX) (st : List Stmt) (δ : Ds) : Prop := PSs X st (tS ⟨X.K, cls⟩ W δ)
theorem PostS.mono {D D' : Ends} {o : Out} (h : PostS C W en D o) (h1 : ∀ σ H, D.nx σ H → D'.nx σ H) (h2 : ∀ v H, D.rt v H → D'.rt v H) (h3 : ∀ σ H, D.bk σ H → D'.bk σ H) (h4 : ∀ σ H, D.ct σ H → D'.ct σ H) : PostS C W en D' o := by
  cases o with
  | next Γ S => exact fun ρ G H σ i => h1 _ _ (h ρ G H σ i)
  | brk Γ S => exact fun ρ G H σ i => h3 _ _ (h ρ G H σ i)
  | cont Γ S => exact fun ρ G H σ i => h4 _ _ (h ρ G H σ i)
  | ret d S => exact fun v ρ G H m n o r => h2 _ _ (h v ρ G H m n o r)
  | exc e Γ S => exact h
  | stuck => exact h

def sNext : Ds := fun Γ S => .next Γ S
def sSeq (a b : Ds) : Ds := fun Γ S => match a Γ S with | .next Γ' S' => b Γ' S' | o => o
/-- a statement that begins with an evaluation -/
def after {α : Type} (r : Res α) (Γ : List Sl) (f : α → List D → Out) : Out := match r with
  | .ok d S => f d S
  | .exc e S => .exc e Γ S
  | .stuck => .stuck
@[simp] theorem after_ok {α : Type} (d : α) (S : List D) (Γ : List Sl) (f : α → List D → Out) : after (.ok d S) Γ f = f d S := Eq.trans rfl rfl
@[simp] theorem after_exc {α : Type} (e : Exn) (S : List D) (Γ : List Sl) (f : α → List D → Out) : after (.exc e S : Res α) Γ f = .exc e Γ S := Eq.trans rfl rfl
@[simp] theorem after_stuck {α : Type} (Γ : List Sl) (f : α → List D → Out) : after (.stuck : Res α) Γ f = .stuck := Eq.trans rfl rfl
def sExpr (e : De) : Ds := fun Γ S => after (e Γ S) Γ fun _ S1 => .next Γ S1
def sRet (e : De) : Ds := fun Γ S => after (e Γ S) Γ fun d S1 => .ret d S1
def sRetN : Ds := fun _ S => .ret .non S
def sSet (i : Nat) (e : De) : Ds := fun Γ S => after (e Γ S) Γ fun d S1 => .next (Γ.set i (.val d)) S1
def sOwn (i : Nat) (e : De) : Ds := fun Γ S => after (e Γ S) Γ fun d S1 => .next (Γ.set i (.own d)) S1
def sIf (t : Dt) (a b : Ds) : Ds := fun Γ S => after (t Γ S) Γ fun k S1 => if k then a Γ S1 else b Γ S1
def sBrk : Ds := fun Γ S => .brk Γ S
def sCont : Ds := fun Γ S => .cont Γ S

theorem post_after {α β : Type} {RV : RVT α β} {D : Ends} {r : Res α} {F : α → List DL.D → Out} {Q : β → Hp → Prop} (i : SI C en Γ S ρ G H σ) (h : PostS C W en D (after r Γ F))
    (k : ∀ d S1 ρ1 G1 H1 v, Mem C Γ S1 ρ1 G1 H1 σ → Nx ρ G H ρ1 G1 H1 → SI C en Γ S1 ρ1 G1 H1 σ → RV H ρ1 G1 H1 d v → PostS C W en D (F d S1) → Q v H1) : Post C W RV Γ ρ G H σ r Q := by
  cases r with
  | ok d S1 => exact fun v ρ1 G1 H1 m n c => k d S1 ρ1 G1 H1 v m n (i.step m n) c h
  | exc e S1 => exact fun cls dx ρ1 G1 H1 m n c => h cls dx ρ1 G1 H1 σ (i.step m n) c
  | stuck => exact h.elim
/-- a slot is set -/
theorem Mem.setv (m : Mem C Γ S ρ G H σ) (i : Nat) {d : D} {v : V} (r : Rep C ρ G d v) : Mem C (Γ.set i (.val d)) S ρ G H (σ.set i (some v)) where
  sub := m.sub
  val := fun j d' h => by
    by_cases e : i = j
    · subst e
      by_cases hl : i < Γ.length
      · rw [List.getElem?_set_self hl] at h; cases h
        exact ⟨v, List.getElem?_set_self (by rw [← m.wid]; exact hl), r⟩
      · rw [List.getElem?_eq_none (by simpa using hl)] at h; cases h
    · rw [List.getElem?_set_ne e] at h
      rw [List.getElem?_set_ne e]; exact m.val j d' h
  own := fun j d' h => by
    by_cases e : i = j
    · subst e
      by_cases hl : i < Γ.length
      · rw [List.getElem?_set_self hl] at h; cases h
      · rw [List.getElem?_eq_none (by simpa using hl)] at h; cases h
    · rw [List.getElem?_set_ne e] at h
      rw [List.getElem?_set_ne e]; exact m.own j d' h
  inj := fun j k d1 d2 a h1 h2 => by
    have ne : ∀ (j : Nat) (d' : D), (Γ.set i (Sl.val d))[j]? = some (Sl.own d') → i ≠ j ∧ Γ[j]? = some (Sl.own d') := fun j d' h => by
      by_cases e : i = j
      · subst e
        by_cases hl : i < Γ.length
        · rw [List.getElem?_set_self hl] at h; cases h
        · rw [List.getElem?_eq_none (by simpa using hl)] at h; cases h
      · rw [List.getElem?_set_ne e] at h; exact ⟨e, h⟩
    obtain ⟨n1, g1⟩ := ne j d1 h1
    obtain ⟨n2, g2⟩ := ne k d2 h2
    rw [List.getElem?_set_ne n1, List.getElem?_set_ne n2]
    exact m.inj j k d1 d2 a g1 g2
  sto := m.sto
  stG := m.stG
  len := m.len
  nd := m.nd
  wid := by rw [List.length_set, List.length_set]; exact m.wid
  xcp := fun j x h => by
    by_cases e : i = j
    · subst e
      by_cases hl : i < Γ.length
      · rw [List.getElem?_set_self hl] at h; cases h
      · rw [List.getElem?_eq_none (by simpa using hl)] at h; cases h
    · rw [List.getElem?_set_ne e] at h
      rw [List.getElem?_set_ne e]; exact m.xcp j x h
theorem SI.setv (s : SI C en Γ S ρ G H σ) (i : Nat) {d : D} {v : V} (r : Rep C ρ G d v) : SI C en (Γ.set i (.val d)) S ρ G H (σ.set i (some v)) := ⟨s.mem.setv i r, s.nx, fun j d' a h1 h2 => by
  by_cases e : i = j
  · subst e
    by_cases hl : i < Γ.length
    · rw [List.getElem?_set_self hl] at h1; cases h1
    · rw [List.getElem?_eq_none (by simpa using hl)] at h1; cases h1
  · rw [List.getElem?_set_ne e] at h1 h2; exact s.frs j d' a h1 h2, s.base, s.basr, s.old⟩
/-- a slot is forgotten -/
theorem SI.forget (s : SI C en Γ S ρ G H σ) (i : Nat) : SI C en (Γ.set i .non) S ρ G H σ := by
  have ne : ∀ (j : Nat) (x : Sl), x ≠ .non → (Γ.set i Sl.non)[j]? = some x → Γ[j]? = some x := fun j x hx h => by
    by_cases e : i = j
    · subst e
      by_cases hl : i < Γ.length
      · rw [List.getElem?_set_self hl] at h; cases h; exact absurd rfl hx
      · rw [List.getElem?_eq_none (by simpa using hl)] at h; cases h
    · rw [List.getElem?_set_ne e] at h; exact h
  exact ⟨⟨s.mem.sub, fun j d h => s.mem.val j d (ne j _ (fun z => nomatch z) h), fun j d h => s.mem.own j d (ne j _ (fun z => nomatch z) h), fun j k d d' a h1 h2 => s.mem.inj j k d d' a (ne j _ (fun z => nomatch z) h1) (ne k _ (fun z => nomatch z) h2), s.mem.sto, s.mem.stG, s.mem.len, s.mem.nd, by rw [List.length_set]; exact s.mem.wid, fun j x h => s.mem.xcp j x (ne j _ (fun z => nomatch z) h)⟩,
    s.nx, fun j d a h1 h2 => s.frs j d a (ne j _ (fun z => nomatch z) h1) h2, s.base, s.basr, s.old⟩
/-- a slot takes a new object for its own -/
theorem SI.seto (s : SI C en Γ S ρ G H σ) (i : Nat) {d : D} {a : Addr} (n : Nx ρ G H ρ' G' H') (m : Mem C Γ S' ρ' G' H' σ) (na : a ∉ ρ') (h0 : H a = none) (hg : G' a = none) (r : ObAt C ρ' G' H' a d) : SI C en (Γ.set i (.own d)) S' ρ' G' H' (σ.set i (some (V.ref a))) := by
  have other : ∀ (j : Nat) (d' : D) (b : Addr), Γ[j]? = some (Sl.own d') → σ[j]? = some (some (V.ref b)) → b ≠ a := fun j d' b h1 h2 z => by
    obtain ⟨b', e, r', _⟩ := s.mem.own j d' h1
    rw [h2] at e; cases e
    obtain ⟨o, ho⟩ := r'.some
    rw [z, h0] at ho; cases ho
  refine ⟨⟨m.sub, fun j d' h => ?_, fun j d' h => ?_, fun j k d1 d2 b h1 h2 e1 e2 => ?_, m.sto, m.stG, m.len, m.nd, by rw [List.length_set, List.length_set]; exact m.wid, fun j x h => ?_⟩, s.nx.trans n, fun j d' b h1 h2 => ?_, s.base.trans n.ext, s.basr.trans n.pre, s.old.trans (old_of s.mem n)⟩
  · by_cases e : i = j
    · subst e
      by_cases hl : i < Γ.length
      · rw [List.getElem?_set_self hl] at h; cases h
      · rw [List.getElem?_eq_none (by simpa using hl)] at h; cases h
    · rw [List.getElem?_set_ne e] at h
      rw [List.getElem?_set_ne e]; exact m.val j d' h
  · by_cases e : i = j
    · subst e
      by_cases hl : i < Γ.length
      · rw [List.getElem?_set_self hl] at h; cases h
        exact ⟨a, List.getElem?_set_self (by rw [← m.wid]; exact hl), r, hg, na⟩
      · rw [List.getElem?_eq_none (by simpa using hl)] at h; cases h
    · rw [List.getElem?_set_ne e] at h
      rw [List.getElem?_set_ne e]; exact m.own j d' h
  · have split : ∀ (j : Nat) (d' : D), (Γ.set i (Sl.own d))[j]? = some (Sl.own d') → i = j ∨ (i ≠ j ∧ Γ[j]? = some (Sl.own d')) := fun j d' h => by
      by_cases e : i = j
      · exact .inl e
      · rw [List.getElem?_set_ne e] at h; exact .inr ⟨e, h⟩
    have at_i : ∀ b, i < σ.length → (σ.set i (some (V.ref a)))[i]? = some (some (V.ref b)) → b = a := fun b hl h => by
      rw [List.getElem?_set_self hl] at h; cases h; rfl
    have hi : ∀ (d' : D), (Γ.set i (Sl.own d))[i]? = some (Sl.own d') → i < σ.length := fun d' h => by
      rw [← m.wid]
      by_cases hl : i < Γ.length
      · exact hl
      · rw [List.getElem?_eq_none (by simpa using hl)] at h; cases h
    rcases split j d1 h1 with z1 | ⟨n1, g1⟩
    · subst z1
      rcases split k d2 h2 with z2 | ⟨n2, g2⟩
      · exact z2
      · rw [List.getElem?_set_ne n2] at e2
        exact absurd (at_i b (hi _ h1) e1) (other k d2 b g2 e2)
    · rw [List.getElem?_set_ne n1] at e1
      rcases split k d2 h2 with z2 | ⟨n2, g2⟩
      · subst z2
        exact absurd (at_i b (hi _ h2) e2) (other j d1 b g1 e1)
      · rw [List.getElem?_set_ne n2] at e2
        exact m.inj j k d1 d2 b g1 g2 e1 e2
  · by_cases e : i = j
    · subst e
      by_cases hl : i < Γ.length
      · rw [List.getElem?_set_self hl] at h; cases h
      · rw [List.getElem?_eq_none (by simpa using hl)] at h; cases h
    · rw [List.getElem?_set_ne e] at h
      rw [List.getElem?_set_ne e]; exact m.xcp j x h
  · by_cases e : i = j
    · subst e
      by_cases hl : i < Γ.length
      · rw [List.getElem?_set_self (by rw [← m.wid]; exact hl)] at h2; cases h2
        exact s.nx.live _ h0
      · rw [List.getElem?_eq_none (by simpa using hl)] at h1; cases h1
    · rw [List.getElem?_set_ne e] at h1 h2; exact s.frs j d' b h1 h2
end

section
variable {X : Cx} {cls : Nat → Addr} {W : WX} {st : Stmt} {sts : List Stmt} {e c : Expr} {pos : Pos} {δ δ1 δ2 : Ds} {ε : De} {τ : Dt}
theorem dss_nil : DSs X cls W [] sNext := PSs.weak pss_nil fun D σ H ⟨en, Γ, S, ρ, G, i, p⟩ => p ρ G H σ i
theorem dss_one (h : DS X cls W st δ) : DSs X cls W [st] δ := pss_one h
theorem dss_cons (h : DS X cls W st δ1) (h2 : DSs X cls W sts δ2) : DSs X cls W (st :: sts) (sSeq δ1 δ2) := PSs.weak (pss_cons h h2) fun D σ H ⟨en, Γ, S, ρ, G, i, p⟩ => by
  refine ⟨en, Γ, S, ρ, G, i, ?_⟩
  unfold sSeq at p
  cases q : δ1 Γ S with
  | next Γ' S' => rw [q] at p; exact fun ρ' G' H' σ' i' => ⟨en, Γ', S', ρ', G', i', p⟩
  | brk Γ' S' => rw [q] at p; exact p
  | cont Γ' S' => rw [q] at p; exact p
  | ret d S' => rw [q] at p; exact p
  | exc x Γ' S' => rw [q] at p; exact p
  | stuck => rw [q] at p; exact p
theorem ds_pass : DS X cls W (.Pass pos) sNext := PS.weak ps_pass fun D σ H ⟨en, Γ, S, ρ, G, i, p⟩ => p ρ G H σ i
theorem ds_break : DS X cls W (.Break pos) sBrk := PS.weak ps_break fun D σ H ⟨en, Γ, S, ρ, G, i, p⟩ => p ρ G H σ i
theorem ds_cont : DS X cls W (.Continue pos) sCont := PS.weak ps_continue fun D σ H ⟨en, Γ, S, ρ, G, i, p⟩ => p ρ G H σ i
theorem ds_expr (h : DE X cls W e ε) (hs : swapsWith e none pos.line X.env = pure false := by rfl) : DS X cls W (.Expr e pos) (sExpr ε) := PS.weak (ps_expr h hs) fun D σ H ⟨en, Γ, S, ρ, G, i, p⟩ =>
  ⟨Γ, S, ρ, G, i.mem, post_after i p fun d S1 ρ1 G1 H1 v m n i1 r p1 => p1 ρ1 G1 H1 σ i1⟩
theorem ds_ret (h : DE X cls W e ε) : DS X cls W (.Return (some e) pos) (sRet ε) := PS.weak (ps_ret h) fun D σ H ⟨en, Γ, S, ρ, G, i, p⟩ =>
  ⟨Γ, S, ρ, G, i.mem, post_after i p fun d S1 ρ1 G1 H1 v m n i1 r p1 => p1 v ρ1 G1 H1 m.toS i1.nx ⟨i1.base, i1.old⟩ r⟩
theorem ds_retN : DS X cls W (.Return none pos) sRetN := PS.weak ps_retN fun D σ H ⟨en, Γ, S, ρ, G, i, p⟩ => p .non ρ G H i.mem.toS i.nx ⟨i.base, i.old⟩ (rep_non.mpr rfl)
/-- the slot's object is returned -/
def sRetO (i : Nat) : Ds := fun Γ S => match Γ[i]? with | some (.own d) => .ret d S | _ => .stuck
/-- a slot's object is settled -/
theorem SI.settle {C : Cn} {en : Ent} {Γ : List Sl} {S : List D} {ρ : List Addr} {G H : Hp} {σ : L2.St} (s : SI C en Γ S ρ G H σ) {i : Nat} {d : D} (h : Γ[i]? = some (.own d)) : ∃ G', SI C en (Γ.set i (.val d)) S ρ G' H σ ∧ Sub G G' := by
  obtain ⟨a, e, r, hg, na⟩ := s.mem.own i d h
  obtain ⟨o, ho⟩ := r.some
  have hl : i < Γ.length := (List.getElem?_eq_some_iff.mp h).1
  have k : Sub G (upd G a o) := fun b u q => by rw [upd_ne (ne_of_none q hg)]; exact q
  have he : en.H a = none := s.frs i d a h e
  have spl : ∀ (j : Nat) (x : Sl), (Γ.set i (Sl.val d))[j]? = some x → (i = j ∧ x = .val d) ∨ (i ≠ j ∧ Γ[j]? = some x) := fun j x q => by
    by_cases z : i = j
    · subst z; rw [List.getElem?_set_self hl] at q; cases q; exact .inl ⟨rfl, rfl⟩
    · rw [List.getElem?_set_ne z] at q; exact .inr ⟨z, q⟩
  refine ⟨upd G a o, ⟨⟨s.mem.sub.put ho, fun j d' q => ?_, fun j d' q => ?_, fun j l d1 d2 b q1 q2 e1 e2 => ?_, fun j d' q => ?_, fun b q => ?_, s.mem.len, s.mem.nd, by rw [List.length_set]; exact s.mem.wid, fun j x q => by
    rcases spl j _ q with ⟨z, y⟩ | ⟨z, y⟩
    · cases y
    · exact ⟨(s.mem.xcp j x y).1, (s.mem.xcp j x y).2.mono k (List.prefix_refl _)⟩⟩, ⟨s.nx.pre, s.nx.ext.trans k, fun b u q => ?_, s.nx.keep, s.nx.live, s.nx.fre⟩, fun j d' b q1 q2 => ?_, s.base.trans k, s.basr, s.old⟩, k⟩
  · rcases spl j _ q with ⟨z, y⟩ | ⟨z, y⟩
    · subst z
      cases y
      refine ⟨_, e, ObAt.rep (r.mono k (List.prefix_refl _) fun u q => ?_)⟩
      rw [ho] at q; cases q; exact upd_same
    · obtain ⟨v, e1, r1⟩ := s.mem.val j d' y
      exact ⟨v, e1, r1.mono k (List.prefix_refl _)⟩
  · rcases spl j _ q with ⟨z, y⟩ | ⟨z, y⟩
    · cases y
    · obtain ⟨b, e1, r1, g1, n1⟩ := s.mem.own j d' y
      have ne : b ≠ a := fun w => by
        subst w
        exact z (s.mem.inj i j d d' b h y e e1)
      exact ⟨b, e1, r1.mono k (List.prefix_refl _) fun _ q => q, by rw [upd_ne ne]; exact g1, n1⟩
  · rcases spl j _ q1 with ⟨z, y⟩ | ⟨z, y⟩
    · cases y
    · rcases spl l _ q2 with ⟨z2, y2⟩ | ⟨z2, y2⟩
      · cases y2
      · exact s.mem.inj j l d1 d2 b y y2 e1 e2
  · obtain ⟨b, e1, r1⟩ := s.mem.sto j d' q
    exact ⟨b, e1, r1.mono k (List.prefix_refl _) fun _ q => q⟩
  · rw [upd_ne (fun z => na (by rw [← z]; exact q))]; exact s.mem.stG b q
  · by_cases z : b = a
    · subst z; exact .inr he
    · rw [upd_ne z] at q; exact s.nx.new b u q
  · rcases spl j _ q1 with ⟨z, y⟩ | ⟨z, y⟩
    · cases y
    · exact s.frs j d' b y q2
theorem ds_retO (i : Nat) {x : Str} {p2 : Pos} (hN : X.N[i]? = some x := by rfl) (hv : Vis X.env.scope x := by first | exact Or.inl rfl | exact Or.inr (Or.inl rfl) | exact Or.inr (Or.inr rfl)) (hd : (x == ("__debug__" : Str)) = false := by decide)
    (hcd : (x == ("__classdict__" : Str)) = false := by decide) : DS X cls W (.Return (some (.Name x p2)) pos) (sRetO i) := PS.weak (ps_ret (pv i hN hv hd hcd)) fun D σ H ⟨en, Γ, S, ρ, G, s, p⟩ => by
  unfold sRetO at p
  split at p
  · rename_i d hd
    obtain ⟨a, e, r, _, _⟩ := s.mem.own i d hd
    obtain ⟨G', s', _⟩ := s.settle hd
    have hl : i < Γ.length := (List.getElem?_eq_some_iff.mp hd).1
    obtain ⟨v, e1, r1⟩ := s'.mem.val i d (List.getElem?_set_self hl)
    rw [e] at e1; cases e1
    exact ⟨_, e, p _ ρ G' H s'.mem.toS s'.nx ⟨s'.base, s'.old⟩ r1⟩
  · exact p.elim
/-- settling, as nothing of the program does it: ahead of a statement -/
def sSettle (i : Nat) : Ds := fun Γ S => match Γ[i]? with | some (.own d) => .next (Γ.set i (.val d)) S | _ => .stuck
theorem dss_settle (i : Nat) (h : DSs X cls W sts δ) : DSs X cls W sts (sSeq (sSettle i) δ) := PSs.weak h fun D σ H ⟨en, Γ, S, ρ, G, s, p⟩ => by
  unfold sSeq sSettle at p
  cases q : Γ[i]? with
  | none => rw [q] at p; exact p.elim
  | some z =>
    rw [q] at p
    cases z with
    | own d =>
      obtain ⟨G', s', _⟩ := s.settle q
      exact ⟨en, _, S, ρ, G', s', p⟩
    | val d => exact p.elim
    | non => exact p.elim
    | xcp x => exact p.elim
/-- forgetting slots -/
def clr : List Nat → List Sl → List Sl
  | [], Γ => Γ
  | i :: r, Γ => clr r (Γ.set i .non)
theorem SI.clr {C : Cn} {en : Ent} {S : List D} {ρ : List Addr} {G H : Hp} {σ : L2.St} : ∀ {kl : List Nat} {Γ : List Sl}, SI C en Γ S ρ G H σ → SI C en (DL.clr kl Γ) S ρ G H σ
  | [], _, s => s
  | i :: r, _, s => SI.clr (kl := r) (s.forget i)
theorem ds_set {i : Nat} {x : Str} {pos' : Pos} (hN : X.N.Nodup) (hi : X.N[i]? = some x) (hx : Loc X.env.scope x) (h : DE X cls W e ε) (hs : swapsWith e (some (.Name x pos')) pos.line X.env = pure false := by rfl)
    (hf : X.fn x = true ∨ X.env.scope.names.lookup x = some .local := by first | exact .inl rfl | exact .inr rfl | assumption) : DS X cls W (.Assign [.Name x pos'] e pos) (sSet i ε) := PS.weak (ps_set hN hi hx h hs hf) fun D σ H ⟨en, Γ, S, ρ, G, s, p⟩ =>
  ⟨Γ, S, ρ, G, s.mem, post_after s p fun d S1 ρ1 G1 H1 v m n s1 r p1 => p1 _ _ _ _ (s1.setv i r)⟩
theorem ds_own {i : Nat} {x : Str} {pos' : Pos} (hN : X.N.Nodup) (hi : X.N[i]? = some x) (hx : Loc X.env.scope x) (h : DF X cls W e ε) (hs : swapsWith e (some (.Name x pos')) pos.line X.env = pure false := by rfl)
    (hf : X.fn x = true ∨ X.env.scope.names.lookup x = some .local := by first | exact .inl rfl | exact .inr rfl | assumption) : DS X cls W (.Assign [.Name x pos'] e pos) (sOwn i ε) := PS.weak (ps_set hN hi hx h hs hf) fun D σ H ⟨en, Γ, S, ρ, G, s, p⟩ =>
  ⟨Γ, S, ρ, G, s.mem, post_after s p fun d S1 ρ1 G1 H1 v m n s1 r p1 => by
    obtain ⟨a, rfl, na, h0, hg, r⟩ := r
    exact p1 _ _ _ _ (s.seto i n m na h0 hg r)⟩
theorem ds_if {a b : List Stmt} (hc : DT X cls W c τ) (ha : DSs X cls W a δ1) (hb : DSs X cls W b δ2) : DS X cls W (.If c a b pos) (sIf τ δ1 δ2) := PS.weak (ps_if hc ha hb) fun D σ H ⟨en, Γ, S, ρ, G, s, p⟩ =>
  ⟨Γ, S, ρ, G, s.mem, post_after s p fun d S1 ρ1 G1 H1 v m n s1 r p1 => by
    have e1 : d = v := r
    subst e1
    cases d with
    | true => exact iteT ⟨en, Γ, S1, ρ1, G1, s1, p1⟩
    | false => exact iteF ⟨en, Γ, S1, ρ1, G1, s1, p1⟩⟩
end

/-! ### a def -/
def bodyRun (n : Nat) (δ : Ds) : List D → List D → Res D := fun ds S => match δ (ds.map Sl.val ++ List.replicate (n - ds.length) Sl.non) S with
  | .next _ S' => .ok .non S'
  | .ret d S' => .ok d S'
  | .exc e _ S' => .exc e S'
  | _ => .stuck
def spD (C : Cn) (np : Nat) (F : List D → List D → Res D) : Sp := fun vs H Q E => ∃ S ρ G ds, MemS C S ρ G H ∧ Reps C ρ G ds vs ∧ vs.length = np ∧ match F ds S with
  | .ok d S' => ∀ v ρ' G' H', MemS C S' ρ' G' H' → Nx ρ G H ρ' G' H' → Rep C ρ' G' d v → Q v H'
  | .exc e S' => ∀ cls dx ρ' G' H', MemS C S' ρ' G' H' → Nx ρ G H ρ' G' H' → ExRep C ρ' G' H' e cls dx → E cls dx H'
  | .stuck => False
section
variable {P : Program} {w : World} {K : PySem.W.Frag} {mg : Str → Option Value} {base : Heap} {cls : Nat → Addr}
theorem start_mem {C : Cn} {S : List D} {ρ : List Addr} {G H : Hp} {ds : List D} {vs : List V} {N : List Str} (m : MemS C S ρ G H) (r : Reps C ρ G ds vs) : Mem C (ds.map Sl.val ++ List.replicate (N.length - ds.length) Sl.non) S ρ G H (L2.start N vs) := by
  have no : ∀ (i : Nat) (d : D), (ds.map Sl.val ++ List.replicate (N.length - ds.length) Sl.non)[i]? ≠ some (Sl.own d) := fun i d h => by
    have hm := List.mem_of_getElem? h
    rcases List.mem_append.mp hm with z | z
    · obtain ⟨_, _, e⟩ := List.mem_map.mp z; cases e
    · cases (List.eq_of_mem_replicate z)
  refine ⟨m.sub, fun i d h => ?_, fun i d h => absurd h (no i d), fun i j d d' a h => absurd h (no i d), m.sto, m.stG, m.len, m.nd, ?_, fun i x h => ?_⟩
  · by_cases hi : i < ds.length
    · rw [List.getElem?_append_left (by simpa using hi), List.getElem?_map] at h
      cases e : ds[i]? with
      | none => rw [e] at h; cases h
      | some d0 =>
        rw [e] at h; cases h
        obtain ⟨v, hv, rv⟩ := r.get e
        refine ⟨v, ?_, rv⟩
        unfold L2.start
        rw [List.getElem?_append_left (by simpa [← r.length] using hi), List.getElem?_map, hv]
        rfl
    · rw [List.getElem?_append_right (by simpa using hi), List.getElem?_replicate] at h
      split at h <;> cases h
  · unfold L2.start
    rw [List.length_append, List.length_append, List.length_map, List.length_map, List.length_replicate, List.length_replicate, r.length]
  · exfalso
    have hm := List.mem_of_getElem? h
    rcases List.mem_append.mp hm with z | z
    · obtain ⟨_, _, e⟩ := List.mem_map.mp z; cases e
    · cases (List.eq_of_mem_replicate z)
theorem def_ok {x qual : Str} {st : Stmt} {f : Addr} {fd : FuncData} {N ps : List Str} {k : Nat} {δ : Ds} (F : Fun K x qual st f fd) (Sc : FnScope N ps (defScope st))
    (hbody : ∀ (cdv : Value) (A : Around) (outer : List Env) (s : Shared) (H : Hp) (E : XK), Room k (A.deeper (envOfC qual (defScope st) s.heap.objs.size f cdv)) →
      DSs (cxOf (L2.CX P w) P w K mg base N qual (defScope st) f cdv A outer s H E) cls (fun c d _ H => E c d H) (defBody st) δ) : FnOk P w K mg base (L2.CX P w) (k + 1) f fd ps (spD ⟨K, cls⟩ ps.length (bodyRun N.length δ)) := by
  refine F.okX Sc (fun vs H Q E h => ?_) (fun cdv A outer s H vs Q E hr h => ⟨_, hbody cdv A outer s H E hr, ?_⟩)
  · obtain ⟨_, _, _, _, _, _, h, _⟩ := h; exact h
  · obtain ⟨S, ρ, G, ds, m, r, hl, h⟩ := h
    refine ⟨⟨ρ, G, H, G, ρ, H⟩, _, S, ρ, G, ⟨start_mem m r, .refl, fun i d a h1 h2 => ?_, .refl, List.prefix_refl _, .refl⟩, ?_⟩
    · exfalso
      have hm := List.mem_of_getElem? h1
      rcases List.mem_append.mp hm with z | z
      · obtain ⟨_, _, e⟩ := List.mem_map.mp z; cases e
      · cases (List.eq_of_mem_replicate z)
    · unfold bodyRun at h
      cases q : δ (ds.map Sl.val ++ List.replicate (N.length - ds.length) Sl.non) S with
      | next Γ S' => rw [q] at h; exact fun ρ' G' H' σ' s' => h .non ρ' G' H' s'.mem.toS s'.nx (rep_non.mpr rfl)
      | ret d S' => rw [q] at h; exact fun v ρ' G' H' m' n' _ r' => h v ρ' G' H' m' n' r'
      | exc e Γ S' => rw [q] at h; exact fun c dx ρ' G' H' σ' s' er => h c dx ρ' G' H' s'.mem.toS s'.nx er
      | brk _ _ => rw [q] at h; exact h.elim
      | cont _ _ => rw [q] at h; exact h.elim
      | stuck => rw [q] at h; exact h.elim
end
/-! ### a call -/
section
variable {X : Cx} {cls : Nat → Addr} {W : WX} {k : Nat} {f : Addr} {fd : FuncData} {ps : List Str} {x : Str} {p pos : Pos} {e : Expr} {es : List Expr} {α : Da} {F : List D → List D → Res D}
theorem de_call (Fn : FnOk X.prog X.w X.K X.mg X.base (L2.CX X.prog X.w) k f fd ps (spD ⟨X.K, cls⟩ ps.length F)) (tk : Takes X W) (hr : Room k X.A) (hg : Gl X x) (hm : X.mg x = some (.ref f)) (hk : PySem.W.keepIn X.K (.ref f) = true) (hb : Binds X.K fd ps [])
    (ha : DA X cls W (e :: es) α) (hal : ALen α ps.length) (hdb : (x == ("__debug__" : Str)) = false := by decide) (he : starEach (e :: es) X.env = (false, eval e X.env) :: starEach es X.env := by rfl) (hpl : (backTo pos (starEach es X.env)).any (·.1) = false := by rfl) :
    DE X cls W (.Call (.Name x p) (e :: es) [] pos) (eCall F α) := PE.weak (pe_callS Fn hr hg hm hk hb (fun σ => passAt tk σ) ha hdb he hpl) fun σ H Q ⟨Γ, S, ρ, G, m, p⟩ => ⟨Γ, S, ρ, G, m, by
  unfold eCall at p
  cases q : α Γ S with
  | ok ds S1 =>
    rw [q] at p
    intro vs ρ1 G1 H1 m1 n1 r1
    refine ⟨S1, ρ1, G1, ds, m1.toS, r1, by rw [← r1.length]; exact hal.le _ _ _ _ q, ?_⟩
    simp only [Res.bind_ok] at p
    cases z : F ds S1 with
    | ok d S2 => rw [z] at p; exact fun v ρ2 G2 H2 m2 n2 r2 => p v ρ2 G2 H2 (m1.step n2 m2) (n1.trans n2) r2
    | exc x S2 => rw [z] at p; exact fun c dx ρ2 G2 H2 m2 n2 r2 => p c dx ρ2 G2 H2 (m1.step n2 m2) (n1.trans n2) r2
    | stuck => rw [z] at p; exact p
  | exc x S1 => rw [q] at p; exact p
  | stuck => rw [q] at p; exact p⟩
end
end DL

namespace DL
open PySem PySem.Spec PyProof.Rows L2

section
variable {C : Cn} {W : WX} {en : Ent} {Γ Γ' : List Sl} {S S' : List D} {ρ ρ' : List Addr} {G G' H H' : Hp} {σ σ' : L2.St} {a : Addr} {d d' : D} {k : Nat} {o : HO}
theorem ObAt.at {b : Addr} (h : ObAt C ρ G H b d) (ne : b ≠ a) : ObAt C ρ G (upd H a o) b d := h.mono .refl (List.prefix_refl _) fun u q => by rw [upd_ne ne]; exact q
/-- an object that no slot, no store and no settled data has -/
theorem Mem.aside (m : Mem C Γ S ρ G H σ) (hg : G a = none) (ht : NoTE (H a)) (hp : a ∉ ρ) (ho : ∀ (i : Nat) (d : D) (b : Addr), Γ[i]? = some (Sl.own d) → σ[i]? = some (some (V.ref b)) → b ≠ a) : Mem C Γ S ρ G (upd H a o) σ where
  sub := m.sub.upd hg ht
  val := m.val
  own := fun i d h => by
    obtain ⟨b, e, r, g, n⟩ := m.own i d h
    exact ⟨b, e, r.at (ho i d b h e), g, n⟩
  inj := m.inj
  sto := fun i d h => by
    obtain ⟨b, e, r⟩ := m.sto i d h
    exact ⟨b, e, r.at fun z => hp (z ▸ List.mem_of_getElem? e)⟩
  stG := m.stG
  len := m.len
  nd := m.nd
  wid := m.wid
  xcp := m.xcp
theorem Nx.aside (n : Nx ρ G H ρ' G' H') (h : H a = none) : Nx ρ G H ρ' G' (upd H' a o) := ⟨n.pre, n.ext, n.new, fun b u t q nb => by rw [upd_ne (ne_of_none q h)]; exact n.keep b u t q nb, fun b q => by
  by_cases e : b = a
  · subst e; exact h
  · rw [upd_ne e] at q; exact n.live b q, n.fre⟩
/-- the store's object is written -/
theorem Mem.poke (m : Mem C Γ S ρ G H σ) {d0 : D} (hk : S[k]? = some d0) (ha : ρ[k]? = some a) (r : ObAt C ρ G (upd H a o) a d') : Mem C Γ (S.set k d') ρ G (upd H a o) σ ∧ Nx ρ G H ρ G (upd H a o) := by
  have am : a ∈ ρ := List.mem_of_getElem? ha
  have hg : G a = none := m.stG a am
  obtain ⟨_, hb0, rb0⟩ := m.sto k d0 hk
  rw [ha] at hb0; cases hb0
  refine ⟨⟨m.sub.upd hg rb0.plain, m.val, fun i d h => ?_, m.inj, fun i d h => ?_, m.stG, by rw [List.length_set]; exact m.len, m.nd, m.wid, m.xcp⟩,
    ⟨List.prefix_refl _, .refl, fun _ _ h => .inl h, fun b u _ q nb => by rw [upd_ne (fun z => nb (by rw [z]; exact am))]; exact q, fun b q => ?_, fun _ h => .inl h⟩⟩
  · obtain ⟨b, e, q, g, n⟩ := m.own i d h
    exact ⟨b, e, q.at fun z => n (z ▸ am), g, n⟩
  · by_cases e : k = i
    · subst e
      have hl : k < S.length := (List.getElem?_eq_some_iff.mp hk).1
      rw [List.getElem?_set_self hl] at h; cases h
      exact ⟨a, ha, r⟩
    · rw [List.getElem?_set_ne e] at h
      obtain ⟨b, e2, q⟩ := m.sto i d h
      refine ⟨b, e2, q.at fun z => e ?_⟩
      subst z
      obtain ⟨h1, e3⟩ := List.getElem?_eq_some_iff.mp ha
      obtain ⟨h2, e4⟩ := List.getElem?_eq_some_iff.mp e2
      exact (List.getElem_inj m.nd).mp (e3.trans e4.symm)
  · by_cases e : b = a
    · subst e; rw [upd_same] at q; cases q
    · rw [upd_ne e] at q; exact q
/-- a slot's own object is written -/
theorem SI.poke (s : SI C en Γ S ρ G H σ) {i : Nat} {d0 : D} (hi : Γ[i]? = some (Sl.own d0)) (ha : σ[i]? = some (some (V.ref a))) (r : ObAt C ρ G (upd H a o) a d') : SI C en (Γ.set i (.own d')) S ρ G (upd H a o) σ := by
  obtain ⟨b, e, q, hg, hp⟩ := s.mem.own i d0 hi
  rw [ha] at e; cases e
  have hl : i < Γ.length := (List.getElem?_eq_some_iff.mp hi).1
  have he : en.H a = none := s.frs i d0 a hi ha
  have spl : ∀ (j : Nat) (x : Sl), (Γ.set i (Sl.own d'))[j]? = some x → (i = j ∧ x = .own d') ∨ (i ≠ j ∧ Γ[j]? = some x) := fun j x q => by
    by_cases z : i = j
    · subst z; rw [List.getElem?_set_self hl] at q; cases q; exact .inl ⟨rfl, rfl⟩
    · rw [List.getElem?_set_ne z] at q; exact .inr ⟨z, q⟩
  have back : ∀ (j : Nat) (d1 : D), (Γ.set i (Sl.own d'))[j]? = some (Sl.own d1) → ∃ d2, Γ[j]? = some (Sl.own d2) := fun j d1 h => by
    rcases spl j _ h with ⟨z, _⟩ | ⟨_, y⟩
    · subst z; exact ⟨_, hi⟩
    · exact ⟨_, y⟩
  refine ⟨⟨s.mem.sub.upd hg q.plain, fun j d1 h => ?_, fun j d1 h => ?_, fun j l d1 d2 b h1 h2 e1 e2 => ?_, fun j d1 h => ?_, s.mem.stG, s.mem.len, s.mem.nd, by rw [List.length_set]; exact s.mem.wid, fun j x h => by
    rcases spl j _ h with ⟨_, y⟩ | ⟨_, y⟩
    · cases y
    · exact s.mem.xcp j x y⟩, s.nx.aside he, fun j d1 b h1 h2 => ?_, s.base, s.basr, fun b ob u h => by rw [upd_ne (fun z => q.nofrz (by rw [← z]; exact s.old _ _ _ h))]; exact s.old _ _ _ h⟩
  · rcases spl j _ h with ⟨_, y⟩ | ⟨_, y⟩
    · cases y
    · exact s.mem.val j d1 y
  · rcases spl j _ h with ⟨z, y⟩ | ⟨z, y⟩
    · subst z; cases y; exact ⟨a, ha, r, hg, hp⟩
    · obtain ⟨b, e1, q1, g1, n1⟩ := s.mem.own j d1 y
      exact ⟨b, e1, q1.at fun w => z (s.mem.inj i j d0 d1 b hi y (w ▸ ha) e1), g1, n1⟩
  · obtain ⟨_, y1⟩ := back j d1 h1
    obtain ⟨_, y2⟩ := back l d2 h2
    exact s.mem.inj j l _ _ b y1 y2 e1 e2
  · obtain ⟨b, e1, q1⟩ := s.mem.sto j d1 h
    exact ⟨b, e1, q1.at fun z => hp (z ▸ List.mem_of_getElem? e1)⟩
  · obtain ⟨_, y1⟩ := back j d1 h1
    exact s.frs j _ b y1 h2
end

section
variable {X : Cx} {cls : Nat → Addr} {W : WX} {st : Stmt} {sts : List Stmt} {e c a b : Expr} {pos : Pos} {δ δ1 δ2 : Ds} {ε ε1 ε2 δa : De} {τ : Dt}
/-- a new list that goes into the store -/
theorem de_box (h : DF X cls W e ε) : DE X cls W e (eBox ε) := PE.weak h fun σ H Q ⟨Γ, S, ρ, G, m, p⟩ => ⟨Γ, S, ρ, G, m, by
  unfold eBox at p
  cases q : ε Γ S with
  | ok d S1 =>
    rw [q] at p
    intro v ρ1 G1 H1 m1 n1 r1
    obtain ⟨a, rfl, na, h0, hg, r⟩ := r1
    have k : ρ1 <+: ρ1 ++ [a] := List.prefix_append _ _
    refine p _ (ρ1 ++ [a]) G1 H1 ⟨m1.sub, fun i d h => ?_, fun i d h => ?_, m1.inj, fun i d h => ?_, fun b hb => ?_, by rw [List.length_append, List.length_append, m1.len] <;> rfl, ?_, m1.wid, fun i x h => ⟨(m1.xcp i x h).1, (m1.xcp i x h).2.mono .refl k⟩⟩ ⟨n1.pre.trans k, n1.ext, n1.new, n1.keep, n1.live, fun b hb => ?_⟩ (rep_ptr.mpr ⟨a, ?_, rfl⟩)
    · obtain ⟨v, e, r⟩ := m1.val i d h
      exact ⟨v, e, r.mono .refl k⟩
    · obtain ⟨b, e, r, g, n⟩ := m1.own i d h
      obtain ⟨b0, e0, r0, _, _⟩ := m.own i d h
      rw [e] at e0; cases e0
      obtain ⟨u, hu⟩ := r0.some
      refine ⟨b, e, r.mono .refl k fun _ h => h, g, fun z => ?_⟩
      rcases List.mem_append.mp z with z | z
      · exact n z
      · rw [List.mem_singleton] at z
        rw [z, h0] at hu; cases hu
    · by_cases hi : i < S1.length
      · rw [List.getElem?_append_left hi] at h
        obtain ⟨b, e, r⟩ := m1.sto i d h
        exact ⟨b, by rw [List.getElem?_append_left (by rw [m1.len]; exact hi)]; exact e, r.mono .refl k fun _ h => h⟩
      · rw [List.getElem?_append_right (by omega)] at h
        have e0 : i - S1.length = 0 := by
          have := (List.getElem?_eq_some_iff.mp h).1
          simp only [List.length_singleton] at this; omega
        rw [e0] at h
        cases h
        have e1 : i = ρ1.length := by rw [m1.len]; omega
        subst e1
        exact ⟨a, by rw [List.getElem?_append_right (Nat.le_refl _), Nat.sub_self] <;> rfl, r.mono .refl k fun _ h => h⟩
    · rcases List.mem_append.mp hb with z | z
      · exact m1.stG b z
      · rw [List.mem_singleton] at z; subst z; exact hg
    · rw [List.nodup_append]
      refine ⟨m1.nd, by simp, fun x hx y hy => ?_⟩
      rw [List.mem_singleton] at hy; subst hy
      exact fun z => na (z ▸ hx)
    · rcases List.mem_append.mp hb with z | z
      · exact n1.fre b z
      · rw [List.mem_singleton] at z; subst z; exact .inr h0
    · rw [← m1.len, List.getElem?_append_right (Nat.le_refl _), Nat.sub_self] <;> rfl
  | exc x S1 => rw [q] at p; exact p
  | stuck => rw [q] at p; exact p⟩
/-! ### lists that change -/
theorem own_at {C : Cn} {en : Ent} {Γ : List Sl} {S : List D} {ρ : List Addr} {G H : Hp} {σ : L2.St} (s : SI C en Γ S ρ G H σ) {i : Nat} {xs : List D} (h : Γ[i]? = some (.own (.lst xs))) : ∃ a vs, σ[i]? = some (some (V.ref a)) ∧ H a = some (.lst vs) ∧ Reps C ρ G xs vs ∧ G a = none ∧ a ∉ ρ := by
  obtain ⟨a, e, ⟨vs, h1, r⟩, g, n⟩ := s.mem.own i _ h
  exact ⟨a, vs, e, h1, r, g, n⟩
/-- found.append(e) -/
def sAppO (i : Nat) (e : De) : Ds := fun Γ S => match Γ[i]? with
  | some (.own (.lst xs)) => after (e Γ S) Γ fun d S1 => if xs.length < sizeLine then .next (Γ.set i (.own (.lst (xs ++ [d])))) S1 else .stuck
  | _ => .stuck
theorem ds_appO (i : Nat) (h : PE X c (tBM X.K "list" rAppend (tVar i) (tCons (tE ⟨X.K, cls⟩ W (RS ⟨X.K, cls⟩) ε) tNil))) (hs : swapsWith c none pos.line X.env = pure false := by rfl) : DS X cls W (.Expr c pos) (sAppO i ε) :=
  PS.weak (ps_expr h hs) fun D σ H ⟨en, Γ, S, ρ, G, s, p⟩ => by
    unfold sAppO at p
    split at p
    · rename_i xs hx
      obtain ⟨a, vs, e, h1, r, g, n⟩ := own_at s hx
      refine ⟨_, e, .inl ⟨rfl, vs, SqL.of h1⟩, Γ, S, ρ, G, s.mem, post_after s p fun d S1 ρ1 G1 H1 v m1 n1 s1 r1 p1 => ?_⟩
      obtain ⟨a', vs', e', h1', r', g', n'⟩ := own_at s1 hx
      rw [e] at e'; cases e'
      split at p1
      · rename_i hl
        refine ⟨a, vs', v, rfl, rfl, h1', by rw [← r'.length]; exact hl, ?_⟩
        exact p1 _ _ _ _ (s1.poke hx e ⟨_, upd_same, r'.append (.cons r1 .nil)⟩)
      · exact p1.elim
    · exact p.elim
/-- found[k] = e -/
def sSetO (i : Nat) (k e : De) : Ds := fun Γ S => after (e Γ S) Γ fun d S1 => match Γ[i]? with
  | some (.own (.lst xs)) => after (k Γ S1) Γ fun x S2 => match (asI x).bind (ixN xs.length) with
    | some j => .next (Γ.set i (.own (.lst (xs.set j d)))) S2
    | none => .stuck
  | _ => .stuck
theorem Reps.setv {C : Cn} {ρ : List Addr} {G : Hp} {d : D} {v : V} {xs : List D} {vs : List V} (r : Reps C ρ G xs vs) (k : Rep C ρ G d v) (j : Nat) : Reps C ρ G (xs.set j d) (vs.set j v) := Reps.set k j r
theorem ds_setO (i : Nat) {tg : Expr} (hg : PG X tg (gSub (tVar i) (tE ⟨X.K, cls⟩ W (RS ⟨X.K, cls⟩) ε1) rSetL)) (he : DE X cls W e ε2) (hs : swapsWithSole [tg] e pos.line X.env = pure false := by rfl) (hw : swappedStores [tg] e X.env = pure none := by rfl) (h1 : (assignEach [tg] X.env).map (·.2) = [assign tg X.env] := by rfl) :
    DS X cls W (.Assign [tg] e pos) (sSetO i ε1 ε2) := PS.weak (ps_asg he hg hs hw h1) fun D σ H ⟨en, Γ, S, ρ, G, s, p⟩ => ⟨Γ, S, ρ, G, s.mem, post_after s p fun d S1 ρ1 G1 H1 v m1 n1 s1 r1 p1 => by
  split at p1
  · rename_i xs hx
    obtain ⟨a, vs, e, h1, r, g, n⟩ := own_at s1 hx
    refine ⟨_, e, Γ, S1, ρ1, G1, s1.mem, post_after s1 p1 fun d2 S2 ρ2 G2 H2 v2 m2 n2 s2 r2 p2 => ?_⟩
    obtain ⟨a', vs', e', h1', r', g', n'⟩ := own_at s2 hx
    rw [e] at e'; cases e'
    cases d2 with
    | int k =>
      have ek := rep_int.mp r2
      subst ek
      split at p2
      · rename_i j hj
        exact ⟨a, vs', k, j, rfl, rfl, h1', by rw [← r'.length]; exact hj, p2 _ _ _ _ (s2.poke hx e ⟨_, upd_same, r'.setv (r1.mono n2.ext n2.pre) j⟩)⟩
      · exact p2.elim
    | _ => exact p2.elim
  · exact p1.elim⟩
/-! .. in the store -/
def sSetP (o k e : De) : Ds := fun Γ S => after (e Γ S) Γ fun d S1 => after (o Γ S1) Γ fun x S2 => after (k Γ S2) Γ fun y S3 => match x with
  | .ptr q => match S3[q]? with
    | some (.lst xs) => match (asI y).bind (ixN xs.length) with
      | some j => .next Γ (S3.set q (.lst (xs.set j d)))
      | none => .stuck
    | _ => .stuck
  | _ => .stuck
theorem sto_at {C : Cn} {Γ : List Sl} {S : List D} {ρ : List Addr} {G H : Hp} {σ : L2.St} (m : Mem C Γ S ρ G H σ) {q : Nat} {v : V} {xs : List D} (r : Rep C ρ G (.ptr q) v) (h : S[q]? = some (.lst xs)) : ∃ a vs, v = V.ref a ∧ ρ[q]? = some a ∧ H a = some (.lst vs) ∧ Reps C ρ G xs vs := by
  obtain ⟨a, ha, rfl⟩ := rep_ptr.mp r
  obtain ⟨b, hb, vs, h1, h2⟩ := m.sto q _ h
  rw [ha] at hb; cases hb
  exact ⟨a, vs, rfl, ha, h1, h2⟩
theorem ds_setP {tg : Expr} (hg : PG X tg (gSub (tE ⟨X.K, cls⟩ W (RS ⟨X.K, cls⟩) δa) (tE ⟨X.K, cls⟩ W (RS ⟨X.K, cls⟩) ε1) rSetL)) (he : DE X cls W e ε2) (hs : swapsWithSole [tg] e pos.line X.env = pure false := by rfl) (hw : swappedStores [tg] e X.env = pure none := by rfl) (h1 : (assignEach [tg] X.env).map (·.2) = [assign tg X.env] := by rfl) :
    DS X cls W (.Assign [tg] e pos) (sSetP δa ε1 ε2) := PS.weak (ps_asg he hg hs hw h1) fun D σ H ⟨en, Γ, S, ρ, G, s, p⟩ =>
  ⟨Γ, S, ρ, G, s.mem, post_after s p fun d S1 ρ1 G1 H1 v m1 n1 s1 r1 p1 => ⟨Γ, S1, ρ1, G1, s1.mem, post_after s1 p1 fun dx S2 ρ2 G2 H2 x m2 n2 s2 r2 p2 => ⟨Γ, S2, ρ2, G2, s2.mem, post_after s2 p2 fun dy S3 ρ3 G3 H3 y m3 n3 s3 r3 p3 => by
    cases dx with
    | ptr q =>
      simp only at p3
      split at p3
      · rename_i xs hx
        obtain ⟨a, vs, rfl, ha, h1, rr⟩ := sto_at m3 (Rep.mono n3.ext n3.pre _ _ r2) hx
        cases dy with
        | int k =>
          have ek := rep_int.mp r3
          subst ek
          split at p3
          · rename_i j hj
            obtain ⟨m4, n4⟩ := m3.poke (a := a) (o := .lst (vs.set j v)) (d' := .lst (xs.set j d)) hx ha ⟨_, upd_same, rr.setv ((r1.mono n2.ext n2.pre).mono n3.ext n3.pre) j⟩
            exact ⟨a, vs, k, j, rfl, rfl, h1, by rw [← rr.length]; exact hj, p3 _ _ _ _ (s3.step m4 n4)⟩
          · exact p3.elim
        | _ => exact p3.elim
      · exact p3.elim
    | _ => exact p3.elim⟩⟩⟩
/-! ### x += e -/
def sAug (i : Nat) (f : D → D → Option D) (e : De) : Ds := fun Γ S => match Γ[i]? with
  | some (.val dx) => after (e Γ S) Γ fun dy S1 => match f (deref S1 dx) (deref S1 dy) with
    | some d => .next (Γ.set i (.val d)) S1
    | none => .stuck
  | _ => .stuck
theorem ds_aug {i : Nat} {x : Str} {op : Operator} {R : R2} {f : D → D → Option D} {pos' : Pos} (hN : X.N.Nodup) (hi : X.N[i]? = some x) (hx : Loc X.env.scope x) (he : DE X cls W e ε) (ho : OpR X (inplaceOp op) R) (hf : R2Ok ⟨X.K, cls⟩ (RS ⟨X.K, cls⟩) R f)
    (hfn : X.fn x = true ∨ X.env.scope.names.lookup x = some .local := by first | exact .inl rfl | exact .inr rfl | assumption) : DS X cls W (.AugAssign (.Name x pos') op e pos) (sAug i f ε) :=
  PS.weak (ps_aug (ti := R) hN hi hx he (fun pins s σ H x y v u Q I rx ry h => ho pins s σ H x y v u Q I rx ry h) hfn) fun D σ H ⟨en, Γ, S, ρ, G, s, p⟩ => by
    unfold sAug at p
    split at p
    · rename_i dx hx
      obtain ⟨v, e, r⟩ := s.mem.val i dx hx
      refine ⟨v, e, Γ, S, ρ, G, s.mem, post_after s p fun dy S1 ρ1 G1 H1 y m1 n1 s1 r1 p1 => ?_⟩
      split at p1
      · rename_i d hd
        exact hf S1 ρ1 G1 H1 v y d _ _ _ m1.toS (m1.read (H0 := H1) (.inl (r.mono n1.ext n1.pre))) (m1.read (H0 := H1) (.inl r1)) hd fun z ρ2 G2 H2 m2 n2 r2 => p1 _ _ _ _ ((s1.step (m1.step n2 m2) n2).setv i r2)
      · exact p1.elim
    · exact p.elim
def dAddI : D → D → Option D
  | .int i, .int j => some (.int (i + j))
  | .str a, .str b => if a.length + b.length ≤ sizeLine then some (.str (a ++ b)) else none
  | _, _ => none
theorem iop_addA : OpR X (inplaceOp .Add) (fun x y H Q => rI0 (fun i j => .int (i + j)) x y H Q ∨ ∃ i j, x = .str i ∧ y = .str j ∧ i.length + j.length ≤ sizeLine ∧ Q (.str (i ++ j)) H) := iop_add.or iop_add_str
theorem ok_addI {C : Cn} : R2Ok C (RS C) (fun x y H Q => rI0 (fun i j => .int (i + j)) x y H Q ∨ ∃ i j, x = .str i ∧ y = .str j ∧ i.length + j.length ≤ sizeLine ∧ Q (.str (i ++ j)) H) dAddI := ok_I0.or (g := dAddI) ok_S fun a b d h => by
  cases a <;> cases b <;> first | exact .inl h | exact .inr h | cases h
theorem ok_subI {C : Cn} : R2Ok C (RS C) (rI0 fun i j => .int (i - j)) fSub := ok_I0

/-! ### targets of loops -/
inductive Pat where
  | nm (i : Nat) | tp (ps : List Pat)
mutual
def Pat.bind : Pat → D → List Sl → Option (List Sl)
  | .nm i, d, Γ => some (Γ.set i (.val d))
  | .tp ps, .tup ds, Γ => Pat.binds ps ds Γ
  | .tp _, _, _ => none
def Pat.binds : List Pat → List D → List Sl → Option (List Sl)
  | [], [], Γ => some Γ
  | p :: ps, d :: ds, Γ => match p.bind d Γ with
    | some Γ' => Pat.binds ps ds Γ'
    | none => none
  | [], _ :: _, _ => none
  | _ :: _, [], _ => none
end
mutual
def Pat.g (K : PySem.W.Frag) : Pat → TG
  | .nm i => gName i
  | .tp ps => gTup K ps.length (Pat.gs K ps)
def Pat.gs (K : PySem.W.Frag) : List Pat → TGs
  | [] => gNil
  | p :: ps => gCons (p.g K) (Pat.gs K ps)
end
mutual
def Pat.vars : Pat → List Nat
  | .nm i => [i]
  | .tp ps => Pat.varss ps
def Pat.varss : List Pat → List Nat
  | [] => []
  | p :: ps => p.vars ++ Pat.varss ps
end
/-- what a binding keeps -/
def Kept (vs : List Nat) (σ σ' : L2.St) : Prop := σ'.length = σ.length ∧ ∀ j, j ∉ vs → σ'[j]? = σ[j]?
def BindOk (C : Cn) (g : (L2.St → Hp → Prop) → Prop) (Γ Γ' : List Sl) (S : List D) (ρ : List Addr) (G H : Hp) (σ : L2.St) (vs : List Nat) : Prop :=
  ∀ Q : L2.St → Hp → Prop, (∀ σ', Mem C Γ' S ρ G H σ' → (∀ en, SI C en Γ S ρ G H σ → SI C en Γ' S ρ G H σ') → Kept vs σ σ' → Q σ' H) → g Q
mutual
theorem Pat.ok {C : Cn} {S : List D} {ρ : List Addr} {G H : Hp} : ∀ (p : Pat) (d : D) (v : V) (Γ Γ' : List Sl) (σ : L2.St), Mem C Γ S ρ G H σ → Rep C ρ G d v → p.bind d Γ = some Γ' → BindOk C (p.g C.K v σ H) Γ Γ' S ρ G H σ p.vars
  | .nm i, d, v, Γ, Γ', σ, m, r, e, Q, q => by
    rw [Pat.bind] at e; cases e
    rw [Pat.g]
    exact q _ (m.setv i r) (fun en s => s.setv i r) ⟨by rw [List.length_set], fun j hj => by rw [Pat.vars, List.mem_singleton] at hj; rw [List.getElem?_set_ne (Ne.symm hj)]⟩
  | .tp ps, d, v, Γ, Γ', σ, m, r, e, Q, q => by
    cases d with
    | tup ds =>
      rw [Pat.bind] at e
      rw [Pat.g]
      obtain ⟨a, vs, rfl, h1, h2⟩ := rep_tup.mp r
      have hl : ds.length = ps.length := Pat.binds_len ps ds Γ Γ' e
      refine ⟨a, vs, rfl, m.sub.sqT h1, by rw [← h2.length, hl], ?_⟩
      exact Pat.oks ps ds vs Γ Γ' σ m h2 e Q q
    | _ => rw [Pat.bind] at e <;> first | cases e | simp
theorem Pat.oks {C : Cn} {S : List D} {ρ : List Addr} {G H : Hp} : ∀ (ps : List Pat) (ds : List D) (vs : List V) (Γ Γ' : List Sl) (σ : L2.St), Mem C Γ S ρ G H σ → Reps C ρ G ds vs → Pat.binds ps ds Γ = some Γ' → BindOk C (Pat.gs C.K ps vs σ H) Γ Γ' S ρ G H σ (Pat.varss ps)
  | [], [], vs, Γ, Γ', σ, m, r, e, Q, q => by
    rw [Pat.binds] at e; cases e
    rw [Pat.gs]
    exact ⟨r.inv0, q σ m (fun _ s => s) ⟨rfl, fun _ _ => rfl⟩⟩
  | [], _ :: _, _, _, _, _, _, _, e, _, _ => by rw [Pat.binds] at e; cases e
  | _ :: _, [], _, _, _, _, _, _, e, _, _ => by rw [Pat.binds] at e; cases e
  | p :: ps, d :: ds, vs, Γ, Γ', σ, m, r, e, Q, q => by
    rw [Pat.binds] at e
    cases z : p.bind d Γ with
    | none => rw [z] at e; cases e
    | some Γ1 =>
      rw [z] at e
      obtain ⟨v, vr, rfl, r1, r2⟩ := r.inv
      rw [Pat.gs]
      refine ⟨v, vr, rfl, ?_⟩
      refine Pat.ok p d v Γ Γ1 σ m r1 z _ fun σ1 m1 s1 k1 => ?_
      refine Pat.oks ps ds vr Γ1 Γ' σ1 m1 r2 e Q fun σ2 m2 s2 k2 => q σ2 m2 (fun en s => s2 en (s1 en s)) ⟨k2.1.trans k1.1, fun j hj => ?_⟩
      rw [Pat.varss, List.mem_append] at hj
      rw [k2.2 j fun h => hj (.inr h), k1.2 j fun h => hj (.inl h)]
theorem Pat.binds_len : ∀ (ps : List Pat) (ds : List D) (Γ Γ' : List Sl), Pat.binds ps ds Γ = some Γ' → ds.length = ps.length
  | [], [], _, _, _ => rfl
  | [], _ :: _, _, _, e => by rw [Pat.binds] at e; cases e
  | _ :: _, [], _, _, e => by rw [Pat.binds] at e; cases e
  | p :: ps, d :: ds, Γ, Γ', e => by
    rw [Pat.binds] at e
    cases z : p.bind d Γ with
    | none => rw [z] at e; cases e
    | some Γ1 => rw [z] at e; rw [List.length_cons, List.length_cons, Pat.binds_len ps ds Γ1 Γ' e]
end
/-- a, b = e -/
def sBind (p : Pat) (e : De) : Ds := fun Γ S => after (e Γ S) Γ fun d S1 => match p.bind d Γ with | some Γ' => .next Γ' S1 | none => .stuck
theorem ds_bind {p : Pat} {tg : Expr} (he : DE X cls W e ε) (hg : PG X tg (p.g X.K)) (hs : swapsWithSole [tg] e pos.line X.env = pure false := by rfl) (hw : swappedStores [tg] e X.env = pure none := by rfl) (h1 : (assignEach [tg] X.env).map (·.2) = [assign tg X.env] := by rfl) : DS X cls W (.Assign [tg] e pos) (sBind p ε) :=
  PS.weak (ps_asg he hg hs hw h1) fun D σ H ⟨en, Γ, S, ρ, G, s, q⟩ => ⟨Γ, S, ρ, G, s.mem, post_after s q fun d S1 ρ1 G1 H1 v m1 n1 s1 r1 p1 => by
    split at p1
    · rename_i Γ' hb
      exact Pat.ok (C := ⟨X.K, cls⟩) p d v Γ Γ' σ m1 r1 hb _ fun σ' m' s' _ => p1 _ _ _ _ (s' en s1)
    · exact p1.elim⟩

/-! ### what is walked -/
structure SrcOk (C : Cn) (J : It) (xs : List D) (ρ0 : List Addr) (G0 H0 : Hp) : Prop where
  go : ∀ S ρ G H i, MemS C S ρ G H → Sub G0 G → ρ0 <+: ρ → Old H0 H → i < xs.length → J.go i H
  yld : ∀ S ρ G H i x H' d, MemS C S ρ G H → Sub G0 G → ρ0 <+: ρ → Old H0 H → xs[i]? = some d → J.yld i H x H' → ∃ G', MemS C S ρ G' H' ∧ Nx ρ G H ρ G' H' ∧ Rep C ρ G' d x
  stop : ∀ S ρ G H, MemS C S ρ G H → Sub G0 G → ρ0 <+: ρ → Old H0 H → J.stop xs.length H
def tI (C : Cn) (W : WX) (ι : Da) : TI := fun σ H R => ∃ Γ S ρ G, Mem C Γ S ρ G H σ ∧ match ι Γ S with
  | .ok xs S1 => ∀ J ρ1 G1 H1, Mem C Γ S1 ρ1 G1 H1 σ → Nx ρ G H ρ1 G1 H1 → SrcOk C J xs ρ1 G1 H1 → R J H1
  | .exc e S1 => ∀ cls dx ρ' G' H', Mem C Γ S1 ρ' G' H' σ → Nx ρ G H ρ' G' H' → ExRep C ρ' G' H' e cls dx → W cls dx σ H'
  | .stuck => False
def DI (X : Cx) (cls : Nat → Addr) (W : WX) (tg iter : Expr) (ι : Da) : Prop := PI X tg iter (tI ⟨X.K, cls⟩ W ι)
theorem PI.weak {X : Cx} {tg iter : Expr} {t t' : TI} (h : PI X tg iter t) (i : ∀ σ H R, t' σ H R → t σ H R) : PI X tg iter t' := ⟨fun pins s σ H Q I h' => h.run pins s σ H Q I (i σ H Q h')⟩
def asL : D → Option (List D) | .lst xs => some xs | _ => none
def asT : D → Option (List D) | .tup xs => some xs | _ => none
def iL (a : De) : Da := fun Γ S => (a Γ S).bind fun x S1 => ofO (asL x) S1
def iT (a : De) : Da := fun Γ S => (a Γ S).bind fun x S1 => ofO (asT x) S1
def rangeD (lo : Int) (n : Nat) : List D := (List.range n).map fun (k : Nat) => .int (lo + k)
def inR (i : Int) : Bool := decide (-(2 ^ 62) ≤ i ∧ i < 2 ^ 62)
def iR1 (a : De) : Da := fun Γ S => (a Γ S).bind fun x S1 => match asI x with | some j => if inR j then .ok (rangeD 0 j.toNat) S1 else .stuck | none => .stuck
def iR2 (a b : De) : Da := fun Γ S => (a Γ S).bind fun x S1 => (b Γ S1).bind fun y S2 => match asI x, asI y with | some i, some j => if inR i ∧ inR j then .ok (rangeD i (j - i).toNat) S2 else .stuck | _, _ => .stuck
variable {tg : Expr} {p : Pos}
theorem src_list {C : Cn} {a : Addr} {xs : List D} {vs : List V} {ρ0 : List Addr} {G0 H0 : Hp} (h : G0 a = some (.lst vs)) (q : Reps C ρ0 G0 xs vs) : SrcOk C (Itl C.K a) xs ρ0 G0 H0 where
  go := fun S ρ G H i m s _ _ hi => ⟨vs, vs[i]'(by rw [← q.length]; exact hi), SqL.of (m.sub.lst (s _ _ h)), List.getElem?_eq_getElem _⟩
  yld := fun S ρ G H i x H' d m s pr _ hd y => by
    obtain ⟨rfl, y⟩ := y
    obtain ⟨v, hv, rv⟩ := q.get hd
    have e := y vs (SqL.of (m.sub.lst (s _ _ h)))
    rw [hv] at e; cases e
    exact ⟨G, m, .refl, rv.mono s pr⟩
  stop := fun S ρ G H m s _ _ => ⟨vs, SqL.of (m.sub.lst (s _ _ h)), by rw [q.length]; exact Nat.le_refl _⟩
theorem src_tup {C : Cn} {a : Addr} {xs : List D} {vs : List V} {ρ0 : List Addr} {G0 H0 : Hp} (h : SqT C.K G0 a vs) (q : Reps C ρ0 G0 xs vs) : SrcOk C (Itt C.K a) xs ρ0 G0 H0 where
  go := fun S ρ G H i m s _ _ hi => ⟨vs, vs[i]'(by rw [← q.length]; exact hi), (m.sub.back s).sqT h, List.getElem?_eq_getElem _⟩
  yld := fun S ρ G H i x H' d m s pr _ hd y => by
    obtain ⟨rfl, y⟩ := y
    obtain ⟨v, hv, rv⟩ := q.get hd
    have e := y vs ((m.sub.back s).sqT h)
    rw [hv] at e; cases e
    exact ⟨G, m, .refl, rv.mono s pr⟩
  stop := fun S ρ G H m s _ _ => ⟨vs, (m.sub.back s).sqT h, by rw [q.length]; exact Nat.le_refl _⟩
theorem src_range {C : Cn} {lo : Int} {n : Nat} {ρ0 : List Addr} {G0 H0 : Hp} : SrcOk C (Itr lo n) (rangeD lo n) ρ0 G0 H0 where
  go := fun S ρ G H i m s _ _ hi => by
    unfold rangeD at hi
    rw [List.length_map, List.length_range] at hi; exact hi
  yld := fun S ρ G H i x H' d m s pr _ hd y => by
    obtain ⟨rfl, rfl⟩ := y
    unfold rangeD at hd
    rw [List.getElem?_map] at hd
    cases z : (List.range n)[i]? with
    | none => rw [z] at hd; cases hd
    | some k =>
      rw [z] at hd; cases hd
      have e := (List.getElem?_eq_some_iff.mp z).2
      rw [List.getElem_range] at e
      subst e
      exact ⟨G, m, .refl, rep_int.mpr rfl⟩
  stop := fun S ρ G H m s _ _ => by
    unfold rangeD
    rw [List.length_map, List.length_range]; exact Nat.le_refl _
theorem x_iter {δ : De} {f : D → Option (List D)} {R : It → Hp → Prop} {σ : L2.St} {H : Hp} (h : tI ⟨X.K, cls⟩ W (fun Γ S => (δ Γ S).bind fun x S1 => ofO (f x) S1) σ H R) : ∃ Γ S ρ G, Mem ⟨X.K, cls⟩ Γ S ρ G H σ ∧ Post ⟨X.K, cls⟩ W (RS ⟨X.K, cls⟩) Γ ρ G H σ (δ Γ S) fun v H1 =>
    ∃ d xs ρ1 G1, Rep ⟨X.K, cls⟩ ρ1 G1 d v ∧ f d = some xs ∧ SubH ⟨X.K, cls⟩ G1 H1 ∧ ∀ J, SrcOk ⟨X.K, cls⟩ J xs ρ1 G1 H1 → R J H1 := by
  obtain ⟨Γ, S, ρ, G, m, p⟩ := h
  refine ⟨Γ, S, ρ, G, m, ?_⟩
  dsimp only at p
  cases q : δ Γ S with
  | ok d S1 =>
    rw [q] at p
    simp only [Res.bind_ok] at p
    cases z : f d with
    | none => rw [z] at p; exact p.elim
    | some xs =>
      rw [z] at p
      exact fun v ρ1 G1 H1 m1 n1 r1 => ⟨d, xs, ρ1, G1, r1, z, m1.sub, fun J sk => p J ρ1 G1 H1 m1 n1 sk⟩
  | exc x S1 => rw [q] at p; exact p
  | stuck => rw [q] at p; exact p
theorem di_l (h : DE X cls W e ε) : DI X cls W tg e (iL ε) := PI.weak (pi_list h) fun σ H R h => by
  obtain ⟨Γ, S, ρ, G, m, p⟩ := x_iter h
  refine ⟨Γ, S, ρ, G, m, p.mono fun v H1 ⟨d, xs, ρ1, G1, r, hd, s, k⟩ => ?_⟩
  cases d <;> try cases hd
  obtain ⟨a, vs, rfl, h1, h2⟩ := rep_lst.mp r
  exact ⟨a, rfl, ⟨vs, SqL.of (s.lst h1)⟩, k _ (src_list h1 h2)⟩
theorem di_t (h : DE X cls W e ε) : DI X cls W tg e (iT ε) := PI.weak (pi_tup h) fun σ H R h => by
  obtain ⟨Γ, S, ρ, G, m, p⟩ := x_iter h
  refine ⟨Γ, S, ρ, G, m, p.mono fun v H1 ⟨d, xs, ρ1, G1, r, hd, s, k⟩ => ?_⟩
  cases d <;> try cases hd
  obtain ⟨a, vs, rfl, h1, h2⟩ := rep_tup.mp r
  exact ⟨a, rfl, ⟨vs, s.sqT h1⟩, k _ (src_tup h1 h2)⟩
theorem di_r1 (hg : Gl X "range") (hm : X.mg "range" = none) (ha : DE X cls W a ε) (he : starEach [a] X.env = (false, eval a X.env) :: starEach [] X.env := by rfl) (hs : starEach [a] X.env = [(false, eval a X.env)] := by rfl) :
    DI X cls W tg (.Call (.Name "range" p) [a] [] pos) (iR1 ε) := PI.weak (pi_range1 hg hm (pa_cons ha pa_nil he) hs) fun σ H R ⟨Γ, S, ρ, G, m, p⟩ => ⟨Γ, S, ρ, G, m, by
  unfold iR1 at p
  cases q : ε Γ S with
  | ok d S1 =>
    rw [q] at p
    simp only [Res.bind_ok] at p
    intro v ρ1 G1 H1 m1 n1 r1
    cases d with
    | int j =>
      simp only [asI] at p
      split at p
      · rename_i xs S2 z
        split at z
        · rename_i hj
          cases z
          have ev := rep_int.mp r1
          subst ev
          have hj2 := of_decide_eq_true hj
          exact ⟨j, rfl, hj2.1, hj2.2, p _ ρ1 G1 H1 m1 n1 src_range⟩
        · cases z
      · rename_i z
        split at z <;> cases z
      · exact p.elim
    | _ => exact p.elim
  | exc x S1 => rw [q] at p; exact p
  | stuck => rw [q] at p; exact p⟩
theorem di_r2 (hg : Gl X "range") (hm : X.mg "range" = none) (ha : DE X cls W a ε1) (hb : DE X cls W b ε2) (he : starEach [a, b] X.env = (false, eval a X.env) :: starEach [b] X.env := by rfl) (he2 : starEach [b] X.env = (false, eval b X.env) :: starEach [] X.env := by rfl)
    (hs : starEach [a, b] X.env = [(false, eval a X.env), (false, eval b X.env)] := by rfl) (hs2 : starEach [b] X.env = [(false, eval b X.env)] := by rfl) :
    DI X cls W tg (.Call (.Name "range" p) [a, b] [] pos) (iR2 ε1 ε2) := PI.weak (pi_range2 hg hm (pa_cons ha (pa_cons hb pa_nil he2) he) hs hs2) fun σ H R ⟨Γ, S, ρ, G, m, p⟩ => ⟨Γ, S, ρ, G, m, by
  unfold iR2 at p
  cases q : ε1 Γ S with
  | ok d S1 =>
    rw [q] at p
    simp only [Res.bind_ok] at p
    intro v ρ1 G1 H1 m1 n1 r1
    refine ⟨Γ, S1, ρ1, G1, m1, ?_⟩
    cases q2 : ε2 Γ S1 with
    | ok d2 S2 =>
      rw [q2] at p
      simp only [Res.bind_ok] at p
      intro v2 ρ2 G2 H2 m2 n2 r2
      cases d with
      | int i =>
        cases d2 with
        | int j =>
          simp only [asI] at p
          split at p
          · rename_i xs S2 z
            split at z
            · rename_i hj
              cases z
              have ev := rep_int.mp r1
              have ew := rep_int.mp r2
              subst ev ew
              have h1 := of_decide_eq_true hj.1
              have h2 := of_decide_eq_true hj.2
              exact ⟨i, j, rfl, ⟨h1.1, h1.2, h2.1, h2.2⟩, p _ ρ2 G2 H2 m2 (n1.trans n2) src_range⟩
            · cases z
          · rename_i z
            split at z <;> cases z
          · exact p.elim
        | _ => exact p.elim
      | _ => exact p.elim
    | exc x S2 => rw [q2] at p; exact fun c dx ρ' G' H' m' n' r' => p c dx ρ' G' H' m' (n1.trans n') r'
    | stuck => rw [q2] at p; exact p
  | exc x S1 => rw [q] at p; exact p
  | stuck => rw [q] at p; exact p⟩

/-! ### for -/
def forD (p : Pat) (kl : List Nat) (β : Ds) : List D → Ds
  | [], Γ, S => .next Γ S
  | x :: xs, Γ, S => match p.bind x Γ with
    | none => .stuck
    | some Γ1 => match β Γ1 S with
      | .next Γ2 S2 => forD p kl β xs (clr kl Γ2) S2
      | .cont Γ2 S2 => forD p kl β xs (clr kl Γ2) S2
      | .brk Γ2 S2 => .next (clr kl Γ2) S2
      | .ret d S2 => .ret d S2
      | .exc e Γ2 S2 => .exc e Γ2 S2
      | .stuck => .stuck
def sFor (ι : Da) (p : Pat) (kl : List Nat) (β : Ds) : Ds := fun Γ S => after (ι Γ S) Γ fun xs S1 => forD p kl β xs Γ S1
theorem SI.rebase {C : Cn} {en : Ent} {Γ : List Sl} {S : List D} {ρ R : List Addr} {G H B F : Hp} {σ : L2.St} (s : SI C { en with B := B, R := R, F := F } Γ S ρ G H σ) (h : Sub en.B B) (k : en.R <+: R) (f : Old en.F F) : SI C en Γ S ρ G H σ := ⟨s.mem, s.nx, s.frs, h.trans s.base, k.trans s.basr, f.trans s.old⟩
theorem SI.to {C : Cn} {en : Ent} {Γ : List Sl} {S : List D} {ρ : List Addr} {G H : Hp} {σ : L2.St} (s : SI C en Γ S ρ G H σ) : SI C { en with B := G, R := ρ, F := H } Γ S ρ G H σ := ⟨s.mem, s.nx, s.frs, .refl, List.prefix_refl _, .refl⟩
theorem PostS.rebase {C : Cn} {en : Ent} {B F : Hp} {R : List Addr} {Dn : Ends} (h : Sub en.B B) (k : en.R <+: R) (f : Old en.F F) : ∀ {o : Out}, PostS C W en Dn o → PostS C W { en with B := B, R := R, F := F } Dn o
  | .next Γ S, q => fun ρ G H σ s => q ρ G H σ (s.rebase h k f)
  | .brk Γ S, q => fun ρ G H σ s => q ρ G H σ (s.rebase h k f)
  | .cont Γ S, q => fun ρ G H σ s => q ρ G H σ (s.rebase h k f)
  | .ret d S, q => fun v ρ G H m n o r => q v ρ G H m n ⟨h.trans o.1, f.trans o.2⟩ r
  | .exc e Γ S, q => fun c dx ρ G H σ s => q c dx ρ G H σ (s.rebase h k f)
  | .stuck, q => q
theorem ds_for {iter : Expr} {body : List Stmt} {ι : Da} {p : Pat} {kl : List Nat} {β : Ds} (hp : PassesOwn (model X.prog X.w) X.A X.env X.xe) (hc : X.calm = true) (hi : DI X cls W tg iter ι) (hg : PG X tg (p.g X.K)) (hb : DSs X cls W body β)
    (hs : ∀ x, foldedSetIterable iter X.env x = pure x := by intro _; rfl) : DS X cls W (.For tg iter body [] pos) (sFor ι p kl β) := PS.weak (ps_for hp hc hi hg hb hs) fun Dn σ H ⟨en, Γ, S, ρ, G, s, q⟩ => ⟨Γ, S, ρ, G, s.mem, by
  unfold sFor at q
  cases z : ι Γ S with
  | exc x S1 => rw [z] at q; exact fun cls' dx ρ1 G1 H1 m n c => q cls' dx ρ1 G1 H1 σ (s.step m n) c
  | stuck => rw [z] at q; exact q.elim
  | ok xs S1 =>
    rw [z] at q
    simp only [after_ok] at q
    intro J ρ1 G1 H1 m1 n1 sk
    have s1 := s.step m1 n1
    have q1 := q.rebase (B := G1) (R := ρ1) (F := H1) s1.base s1.basr s1.old
    refine ⟨fun i m σ H => m = xs.length - i ∧ i ≤ xs.length ∧ ∃ Γ S ρ G, SI ⟨X.K, cls⟩ { en with B := G1, R := ρ1, F := H1 } Γ S ρ G H σ ∧ PostS ⟨X.K, cls⟩ W { en with B := G1, R := ρ1, F := H1 } Dn (forD p kl β (xs.drop i) Γ S),
      ⟨xs.length, by omega, Nat.zero_le _, Γ, S1, ρ1, G1, s1.to, q1⟩, fun i m σ H ⟨hm, hi, Γ, S, ρ, G, s, q⟩ => ?_⟩
    by_cases hlt : i < xs.length
    · rw [List.drop_eq_getElem_cons hlt] at q
      refine .inr ⟨sk.go S ρ G H i s.mem.toS s.base s.basr s.old hlt, fun σ' H' => ∃ Γ S ρ G, SI ⟨X.K, cls⟩ { en with B := G1, R := ρ1, F := H1 } Γ S ρ G H' σ' ∧ PostS ⟨X.K, cls⟩ W { en with B := G1, R := ρ1, F := H1 } Dn (forD p kl β (xs.drop (i + 1)) Γ S),
        fun σ' H' n => ⟨xs.length - (i + 1), by omega, rfl, hlt, n⟩, fun x H' y => ?_⟩
      obtain ⟨G', m', n', r'⟩ := sk.yld S ρ G H i x H' _ s.mem.toS s.base s.basr s.old (List.getElem?_eq_getElem hlt) y
      have mm := s.mem.step n' m'
      have s' := s.step mm n'
      rw [forD] at q
      cases hbd : p.bind xs[i] Γ with
      | none => rw [hbd] at q; exact q.elim
      | some Γ1 =>
        rw [hbd] at q
        refine Pat.ok (C := ⟨X.K, cls⟩) p xs[i] x Γ Γ1 σ mm r' hbd _ fun σ2 m2 sb kp => ?_
        refine ⟨_, Γ1, S, ρ, G', sb _ s', ?_⟩
        simp only at q
        cases hz : β Γ1 S with
        | next Γ2 S2 => rw [hz] at q; exact fun ρ3 G3 H3 σ3 s3 => ⟨_, S2, ρ3, G3, s3.clr, q⟩
        | cont Γ2 S2 => rw [hz] at q; exact fun ρ3 G3 H3 σ3 s3 => ⟨_, S2, ρ3, G3, s3.clr, q⟩
        | brk Γ2 S2 => rw [hz] at q; exact fun ρ3 G3 H3 σ3 s3 => q ρ3 G3 H3 σ3 s3.clr
        | ret d S2 => rw [hz] at q; exact q
        | exc e Γ2 S2 => rw [hz] at q; exact q
        | stuck => rw [hz] at q; exact q.elim
    · have e : i = xs.length := by omega
      subst e
      rw [List.drop_length, forD] at q
      exact .inl ⟨sk.stop S ρ G H s.mem.toS s.base s.basr s.old, q ρ G H σ s⟩⟩
/-- forgetting, as nothing of the program does it: ahead of a statement -/
def sClr (kl : List Nat) : Ds := fun Γ S => .next (clr kl Γ) S
theorem dss_clr (kl : List Nat) (h : DSs X cls W sts δ) : DSs X cls W sts (sSeq (sClr kl) δ) := PSs.weak h fun Dn σ H ⟨en, Γ, S, ρ, G, s, p⟩ => ⟨en, _, S, ρ, G, s.clr, p⟩

/-! ### while -/
def whileD (τ : Dt) (kl : List Nat) (β : Ds) : Nat → Ds
  | 0, _, _ => .stuck
  | n + 1, Γ, S => after (τ Γ S) Γ fun k S1 => if k then (match β Γ S1 with
      | .next Γ2 S2 => whileD τ kl β n (clr kl Γ2) S2
      | .cont Γ2 S2 => whileD τ kl β n (clr kl Γ2) S2
      | .brk Γ2 S2 => .next (clr kl Γ2) S2
      | .ret d S2 => .ret d S2
      | .exc e Γ2 S2 => .exc e Γ2 S2
      | .stuck => .stuck) else .next Γ S1
theorem ds_while {body : List Stmt} {kl : List Nat} {β : Ds} {n : Nat} (hp : PassesOwn (model X.prog X.w) X.A X.env X.xe) (hc : DT X cls W c τ) (hb : DSs X cls W body β) : DS X cls W (.While c body [] pos) (whileD τ kl β n) :=
  PS.weak (ps_while hp hc hb) fun Dn σ H ⟨en, Γ, S, ρ, G, s, q⟩ => by
    refine ⟨fun m σ H => ∃ Γ S ρ G, SI ⟨X.K, cls⟩ en Γ S ρ G H σ ∧ PostS ⟨X.K, cls⟩ W en Dn (whileD τ kl β m Γ S), ⟨n, Γ, S, ρ, G, s, q⟩, fun m σ H ⟨Γ, S, ρ, G, s, q⟩ => ?_⟩
    cases m with
    | zero => exact q.elim
    | succ m =>
      rw [whileD] at q
      refine ⟨Γ, S, ρ, G, s.mem, post_after s q fun k S1 ρ1 G1 H1 v m1 n1 s1 r1 p1 => ?_⟩
      have e1 : k = v := r1
      subst e1
      cases k with
      | false => exact iteF (p1 ρ1 G1 H1 σ s1)
      | true =>
        simp only [if_true] at p1
        refine iteT ⟨fun σ' H' => ∃ Γ S ρ G, SI ⟨X.K, cls⟩ en Γ S ρ G H' σ' ∧ PostS ⟨X.K, cls⟩ W en Dn (whileD τ kl β m Γ S), fun σ' H' n => ⟨m, by omega, n⟩, en, Γ, S1, ρ1, G1, s1, ?_⟩
        cases hz : β Γ S1 with
        | next Γ2 S2 => rw [hz] at p1; exact fun ρ3 G3 H3 σ3 s3 => ⟨_, S2, ρ3, G3, s3.clr, p1⟩
        | cont Γ2 S2 => rw [hz] at p1; exact fun ρ3 G3 H3 σ3 s3 => ⟨_, S2, ρ3, G3, s3.clr, p1⟩
        | brk Γ2 S2 => rw [hz] at p1; exact fun ρ3 G3 H3 σ3 s3 => p1 ρ3 G3 H3 σ3 s3.clr
        | ret d S2 => rw [hz] at p1; exact p1
        | exc e Γ2 S2 => rw [hz] at p1; exact p1
        | stuck => rw [hz] at p1; exact p1.elim
end
end DL

namespace DL
open PySem PySem.Spec PyProof.Rows L2

/-! ### list comprehensions -/
abbrev W0 : WX := fun _ _ _ _ => False
def wipeD (Γ : List Sl) : List Nat → List Sl
  | [] => Γ
  | v :: vs => (wipeD Γ vs).set v .non
theorem wipe_out2 {σ : L2.St} {j : Nat} : ∀ {vs : List Nat}, j ∉ vs → (L2.wipe σ vs)[j]? = σ[j]?
  | [], _ => rfl
  | v :: vs, h => by
    rw [List.mem_cons, not_or] at h
    unfold L2.wipe
    rw [List.getElem?_set_ne (Ne.symm h.1), wipe_out2 h.2]
theorem wipe_in {σ : L2.St} {j : Nat} (hl : j < σ.length) : ∀ {vs : List Nat}, j ∈ vs → (L2.wipe σ vs)[j]? = some none
  | v :: vs, h => by
    unfold L2.wipe
    by_cases e : v = j
    · subst e
      rw [List.getElem?_set_self (by rw [L2.wipe_length]; exact hl)]
    · rw [List.getElem?_set_ne e]
      rcases List.mem_cons.mp h with z | z
      · exact absurd z.symm e
      · exact wipe_in hl z
theorem wipe_eq {σ σ' : L2.St} {vs : List Nat} (hl : σ'.length = σ.length) (h : ∀ j, j ∉ vs → σ'[j]? = σ[j]?) : L2.wipe σ' vs = L2.wipe σ vs := by
  apply List.ext_getElem?
  intro j
  by_cases hj : j ∈ vs
  · by_cases hlt : j < σ.length
    · rw [wipe_in (by rw [hl]; exact hlt) hj, wipe_in hlt hj]
    · rw [List.getElem?_eq_none (by rw [L2.wipe_length]; omega), List.getElem?_eq_none (by rw [L2.wipe_length]; omega)]
  · rw [wipe_out2 hj, wipe_out2 hj, h j hj]
theorem wipeD_out {Γ : List Sl} {j : Nat} {x : Sl} (hx : x ≠ .non) : ∀ {vs : List Nat}, (wipeD Γ vs)[j]? = some x → Γ[j]? = some x ∧ j ∉ vs
  | [], h => ⟨h, by simp⟩
  | v :: vs, h => by
    unfold wipeD at h
    by_cases e : v = j
    · subst e
      by_cases hl : v < (wipeD Γ vs).length
      · rw [List.getElem?_set_self hl] at h; cases h; exact absurd rfl hx
      · rw [List.getElem?_eq_none (by simpa using hl)] at h; cases h
    · rw [List.getElem?_set_ne e] at h
      obtain ⟨h1, h2⟩ := wipeD_out hx h
      exact ⟨h1, by rw [List.mem_cons, not_or]; exact ⟨fun z => e z.symm, h2⟩⟩
theorem wipeD_val {Γ : List Sl} {j : Nat} {d : D} {vs : List Nat} (h : (wipeD Γ vs)[j]? = some (Sl.val d)) : Γ[j]? = some (Sl.val d) ∧ j ∉ vs := wipeD_out (by intro z; cases z) h
theorem wipeD_own {Γ : List Sl} {j : Nat} {d : D} {vs : List Nat} (h : (wipeD Γ vs)[j]? = some (Sl.own d)) : Γ[j]? = some (Sl.own d) ∧ j ∉ vs := wipeD_out (by intro z; cases z) h
theorem wipeD_len {Γ : List Sl} : ∀ {vs : List Nat}, (wipeD Γ vs).length = Γ.length
  | [] => rfl
  | v :: vs => by unfold wipeD; rw [List.length_set, wipeD_len]
theorem Mem.wipe {C : Cn} {Γ : List Sl} {S : List D} {ρ : List Addr} {G H : Hp} {σ : L2.St} (m : Mem C Γ S ρ G H σ) (vs : List Nat) : Mem C (wipeD Γ vs) S ρ G H (L2.wipe σ vs) where
  sub := m.sub
  val := fun i d h => by
    obtain ⟨h1, h2⟩ := wipeD_val h
    rw [wipe_out2 h2]; exact m.val i d h1
  own := fun i d h => by
    obtain ⟨h1, h2⟩ := wipeD_own h
    rw [wipe_out2 h2]; exact m.own i d h1
  inj := fun i j d d' a h k h2 k2 => by
    obtain ⟨h1, n1⟩ := wipeD_own h
    obtain ⟨k1, n2⟩ := wipeD_own k
    rw [wipe_out2 n1] at h2
    rw [wipe_out2 n2] at k2
    exact m.inj i j d d' a h1 k1 h2 k2
  sto := m.sto
  stG := m.stG
  len := m.len
  nd := m.nd
  wid := by rw [wipeD_len, L2.wipe_length]; exact m.wid
  xcp := fun i x h => by
    obtain ⟨h1, h2⟩ := wipeD_out (by intro z; cases z) h
    rw [wipe_out2 h2]; exact m.xcp i x h1
/-- in a comprehension nothing may be raised -/
def nox {α : Type} (r : Res α) : Res α := match r with | .exc _ _ => .stuck | r => r
@[simp] theorem nox_ok {α : Type} (a : α) (S : List D) : nox (.ok a S) = .ok a S := Eq.trans rfl rfl
@[simp] theorem nox_exc {α : Type} (e : Exn) (S : List D) : nox (.exc e S : Res α) = .stuck := Eq.trans rfl rfl
@[simp] theorem nox_stuck {α : Type} : nox (.stuck : Res α) = .stuck := Eq.trans rfl rfl
def compD (p : Pat) (τ : Dt) (ε : De) : List D → List Sl → List D → Res (List D)
  | [], _, S => .ok [] S
  | x :: xs, Γ, S => match p.bind x Γ with
    | none => .stuck
    | some Γ1 => (nox (τ Γ1 S)).bind fun k S1 => if k then (nox (ε Γ1 S1)).bind fun d S2 => (compD p τ ε xs Γ S2).bind fun ds S3 => .ok (d :: ds) S3 else compD p τ ε xs Γ S1
def lenOk (ds : List D) : Option D := if ds.length ≤ sizeLine then some (.lst ds) else none
def eComp (ι : Da) (p : Pat) (vs : List Nat) (τ : Dt) (ε : De) : De := fun Γ S => (ι Γ S).bind fun xs S1 => (compD p τ ε xs (wipeD Γ vs) S1).bind fun ds S2 => ofO (lenOk ds) S2
def tTrue : Dt := fun _ S => .ok true S
def DTs (X : Cx) (cls : Nat → Addr) (ifs : List Expr) (τ : Dt) : Prop := PTs X ifs (tT ⟨X.K, cls⟩ W0 τ)
theorem PTs.weak {X : Cx} {e : List Expr} {t t' : TT} (h : PTs X e t) (i : ∀ σ H Q, t' σ H Q → t σ H Q) : PTs X e t' := ⟨fun pins s σ H Q I h' => h.run pins s σ H Q I (i σ H Q h')⟩
section
variable {X : Cx} {cls : Nat → Addr} {W : WX} {e c : Expr} {τ : Dt}
theorem dts_nil : DTs X cls [] tTrue := PTs.weak pts_nil fun σ H Q ⟨Γ, S, ρ, G, m, p⟩ => p.at m rfl
theorem dts_one (h : DT X cls W0 c τ) : DTs X cls [c] τ := pts_one h
end
theorem nox_post {C : Cn} {α β : Type} {RV : RVT α β} {Γ : List Sl} {ρ : List Addr} {G H : Hp} {σ : L2.St} {r : Res α} {Q : β → Hp → Prop} (h : ∀ d S1, r = .ok d S1 → ∀ v ρ' G' H', Mem C Γ S1 ρ' G' H' σ → Nx ρ G H ρ' G' H' → RV H ρ' G' H' d v → Q v H') (hs : ∃ d S1, r = .ok d S1) : Post C W0 RV Γ ρ G H σ r Q := by
  obtain ⟨d, S1, rfl⟩ := hs
  exact h d S1 rfl

section
variable {X : Cx} {cls : Nat → Addr} {W : WX}
theorem x_comp {ι : Da} {p : Pat} {τ : Dt} {ε : De} {vs : List Nat} (hv : ∀ i ∈ p.vars, i ∈ vs) {σ : L2.St} {H : Hp} {Q : VK} (h : tE ⟨X.K, cls⟩ W (RF ⟨X.K, cls⟩) (eComp ι p vs τ ε) σ H Q) :
    tLc (tI ⟨X.K, cls⟩ W ι) (p.g X.K) (tT ⟨X.K, cls⟩ W0 τ) (tE ⟨X.K, cls⟩ W0 (RS ⟨X.K, cls⟩) ε) vs σ H Q := by
  obtain ⟨Γ, S, ρ, G, m, q⟩ := h
  refine ⟨Γ, S, ρ, G, m, ?_⟩
  unfold eComp at q
  cases z : ι Γ S with
  | exc x S1 => rw [z] at q; exact q
  | stuck => rw [z] at q; exact q
  | ok xs S1 =>
    rw [z] at q
    simp only [Res.bind_ok] at q
    intro J ρ1 G1 H1 m1 n1 sk D0 hD
    have hown : ∀ (i : Nat) (d : D) (b : Addr), Γ[i]? = some (Sl.own d) → σ[i]? = some (some (V.ref b)) → b ≠ D0 := fun i d b h1 h2 e => by
      obtain ⟨b', e', r', _⟩ := m1.own i d h1
      rw [h2] at e'; cases e'
      obtain ⟨o, ho⟩ := r'.some
      rw [e, hD] at ho; cases ho
    have hownw : ∀ (i : Nat) (d : D) (b : Addr), (wipeD Γ vs)[i]? = some (Sl.own d) → (L2.wipe σ vs)[i]? = some (some (V.ref b)) → b ≠ D0 := fun i d b h1 h2 => by
      obtain ⟨k1, k2⟩ := wipeD_own h1
      rw [wipe_out2 k2] at h2
      exact hown i d b k1 h2
    have gD : G1 D0 = none := by
      cases e : G1 D0 with
      | none => rfl
      | some o => obtain ⟨_, z⟩ := m1.sub.has e; rw [z] at hD; cases hD
    have pD : D0 ∉ ρ1 := fun e => by
      obtain ⟨i, hi⟩ := List.mem_iff_getElem?.mp e
      have hi2 : i < S1.length := by rw [← m1.len]; exact (List.getElem?_eq_some_iff.mp hi).1
      obtain ⟨a, ha, r⟩ := m1.sto i S1[i] (List.getElem?_eq_getElem hi2)
      rw [hi] at ha; cases ha
      obtain ⟨o, ho⟩ := r.some
      rw [ho] at hD; cases hD
    -- the state of the loop
    let Pv : Nat → Hp → Prop := fun i H => ∃ S ρ G acc accd, Mem ⟨X.K, cls⟩ Γ S ρ G H σ ∧ H D0 = some (.lst acc) ∧ Reps ⟨X.K, cls⟩ ρ G accd acc ∧ D0 ∉ ρ ∧ G D0 = none ∧ Nx ρ1 G1 H1 ρ G H ∧
      compD p τ ε xs (wipeD Γ vs) S1 = (compD p τ ε (xs.drop i) (wipeD Γ vs) S).bind fun ds S3 => .ok (accd ++ ds) S3
    refine ⟨fun i mm H => mm = xs.length - i ∧ i ≤ xs.length ∧ Pv i H, ⟨xs.length, by omega, Nat.zero_le _, S1, ρ1, G1, [], [], m1.aside gD (noTE_of hD) pD hown, upd_same, .nil, pD, gD, Nx.refl.aside hD, ?_⟩, fun i mm H ⟨hm, hi, S, ρ, G, acc, accd, ms, hacc, racc, pD', gD', nn, eqn⟩ => ?_⟩
    · rw [List.drop_zero]
      cases compD p τ ε xs (wipeD Γ vs) S1 <;> rfl
    · have sub1 : Sub G1 G := nn.ext
      by_cases hlt : i < xs.length
      · rw [List.drop_eq_getElem_cons hlt, compD] at eqn
        refine .inr ⟨sk.go S ρ G H i ms.toS sub1 nn.pre (old_of m1 nn) hlt, Pv (i + 1), fun H' n => ⟨xs.length - (i + 1), by omega, rfl, hlt, n⟩, fun x H' y => ?_⟩
        obtain ⟨G', m', n', r'⟩ := sk.yld S ρ G H i x H' _ ms.toS sub1 nn.pre (old_of m1 nn) (List.getElem?_eq_getElem hlt) y
        have mH' := ms.step n' m'
        have mw := mH'.wipe vs
        cases hbd : p.bind xs[i] (wipeD Γ vs) with
        | none => rw [hbd] at eqn; rw [eqn] at q; exact q.elim
        | some Γ1 =>
          rw [hbd] at eqn
          simp only at eqn
          refine Pat.ok (C := ⟨X.K, cls⟩) p xs[i] x (wipeD Γ vs) Γ1 (L2.wipe σ vs) mw r' hbd _ fun σ2 m2 _ kp => ⟨?_, Γ1, S, ρ, G', m2, ?_⟩
          · rw [wipe_eq kp.1 fun j hj => kp.2 j fun h => hj (hv j h), wipe_eq (L2.wipe_length σ vs) fun j hj => wipe_out2 hj]
          · -- the test
            cases zt : τ Γ1 S with
            | exc x2 S2 => rw [zt] at eqn; rw [eqn] at q; exact q.elim
            | stuck => rw [zt] at eqn; rw [eqn] at q; exact q.elim
            | ok k S2 =>
              rw [zt] at eqn
              simp only [nox_ok, Res.bind_ok] at eqn
              intro kv ρ2 G2 H2 mm2 nn2 rk
              have ek : k = kv := rk
              subst ek
              have nnH : Nx ρ G H ρ2 G2 H2 := n'.trans nn2
              have mg2 : Mem ⟨X.K, cls⟩ Γ S2 ρ2 G2 H2 σ := ms.step nnH mm2.toS
              cases k with
              | false =>
                simp only [Bool.false_eq_true, if_false] at eqn
                refine iteF ⟨S2, ρ2, G2, acc, accd, mg2, nnH.keep _ _ (fun _ z => nomatch z) hacc pD', Reps.mono nnH.ext nnH.pre _ _ racc, fun z => ?_, ?_, nn.trans nnH, eqn⟩
                · rcases nnH.fre _ z with z | z
                  · exact pD' z
                  · rw [hacc] at z; cases z
                · cases e : G2 D0 with
                  | none => rfl
                  | some o => rcases nnH.new _ _ e with z | z
                              · rw [gD'] at z; cases z
                              · rw [hacc] at z; cases z
              | true =>
                simp only [if_true] at eqn
                refine iteT ⟨Γ1, S2, ρ2, G2, mm2, ?_⟩
                cases ze : ε Γ1 S2 with
                | exc x3 S3 => rw [ze] at eqn; rw [eqn] at q; exact q.elim
                | stuck => rw [ze] at eqn; rw [eqn] at q; exact q.elim
                | ok d S3 =>
                  rw [ze] at eqn
                  simp only [nox_ok, Res.bind_ok] at eqn
                  intro dv ρ3 G3 H3 mm3 nn3 rd
                  have nn4 : Nx ρ G H ρ3 G3 H3 := nnH.trans nn3
                  have hacc3 : H3 D0 = some (.lst acc) := nn4.keep _ _ (fun _ z => nomatch z) hacc pD'
                  have pD3 : D0 ∉ ρ3 := fun z => by
                    rcases nn4.fre _ z with z | z
                    · exact pD' z
                    · rw [hacc] at z; cases z
                  have gD3 : G3 D0 = none := by
                    cases e : G3 D0 with
                    | none => rfl
                    | some o => rcases nn4.new _ _ e with z | z
                                · rw [gD'] at z; cases z
                                · rw [hacc] at z; cases z
                  have mg3 : Mem ⟨X.K, cls⟩ Γ S3 ρ3 G3 H3 σ := ms.step nn4 mm3.toS
                  have eqn2 : compD p τ ε xs (wipeD Γ vs) S1 = (compD p τ ε (xs.drop (i + 1)) (wipeD Γ vs) S3).bind fun ds S3 => .ok ((accd ++ [d]) ++ ds) S3 := by
                    rw [eqn]
                    cases compD p τ ε (xs.drop (i + 1)) (wipeD Γ vs) S3 with
                    | ok ds S4 => simp only [Res.bind_ok, List.append_assoc, List.singleton_append]
                    | exc _ _ => rfl
                    | stuck => rfl
                  refine ⟨acc, hacc3, ?_, S3, ρ3, G3, acc ++ [dv], accd ++ [d], mg3.aside gD3 (noTE_lst hacc3) pD3 hown, upd_same, (Reps.mono nn4.ext nn4.pre _ _ racc).append (.cons rd .nil), pD3, gD3, (nn.trans nn4).aside hD, eqn2⟩
                  rw [eqn2] at q
                  cases zz : compD p τ ε (xs.drop (i + 1)) (wipeD Γ vs) S3 with
                  | exc _ _ =>
                    exfalso
                    have : ∀ (xs : List D) (Γ : List Sl) (S : List D) e S', compD p τ ε xs Γ S ≠ .exc e S' := by
                      intro xs
                      induction xs with
                      | nil => intro Γ S e S' h; cases h
                      | cons x xs ih =>
                        intro Γ S e S' h
                        rw [compD] at h
                        cases a1 : p.bind x Γ with
                        | none => rw [a1] at h; cases h
                        | some Γ1 =>
                          rw [a1] at h
                          simp only at h
                          cases a2 : τ Γ1 S with
                          | exc _ _ => rw [a2] at h; cases h
                          | stuck => rw [a2] at h; cases h
                          | ok k S1 =>
                            rw [a2] at h
                            simp only [nox_ok, Res.bind_ok] at h
                            cases k with
                            | false => exact ih _ _ _ _ (by simpa using h)
                            | true =>
                              simp only [if_true] at h
                              cases a3 : ε Γ1 S1 with
                              | exc _ _ => rw [a3] at h; cases h
                              | stuck => rw [a3] at h; cases h
                              | ok d S2 =>
                                rw [a3] at h
                                simp only [nox_ok, Res.bind_ok] at h
                                cases a4 : compD p τ ε xs Γ S2 with
                                | ok _ _ => rw [a4] at h; cases h
                                | stuck => rw [a4] at h; cases h
                                | exc _ _ => exact ih _ _ _ _ a4
                    exact this _ _ _ _ _ zz
                  | stuck => rw [zz] at q; exact q.elim
                  | ok ds S4 =>
                    rw [zz] at q
                    simp only [Res.bind_ok] at q
                    unfold lenOk at q
                    split at q
                    · rename_i hl
                      rw [List.length_append, List.length_append, List.length_singleton] at hl
                      rw [← racc.length]; omega
                    · exact q.elim
      · have e : i = xs.length := by omega
        subst e
        refine .inl ⟨sk.stop S ρ G H ms.toS sub1 nn.pre (old_of m1 nn), ?_⟩
        rw [List.drop_length, compD] at eqn
        rw [eqn] at q
        simp only [Res.bind_ok, List.append_nil] at q
        unfold lenOk at q
        split at q
        · exact q _ ρ G H ms (n1.trans nn) ⟨D0, rfl, pD', n1.live _ hD, gD', acc, hacc, racc⟩
        · exact q.elim
theorem df_comp {elt tg iter : Expr} {ifs : List Expr} {scope : Scope} {own : List (Str × Nat)} {pos : Pos} {ι : Da} {p : Pat} {τ : Dt} {ε : De} (hc : X.calm = true) (hN : X.N.Nodup) (hi : DI X cls W tg iter ι) (ok : BlkOk X.N X.env.scope scope own) (hv : ∀ i ∈ p.vars, i ∈ own.map (·.2))
    (hg : ∀ (s : Shared) (H : Hp) (C : Addr) (cl : List (Str × Addr)) (fp : List Addr), PG (X.blk s H scope (compEnvC scope cl C X.env) fp) tg (p.g X.K)) (ht : ∀ (s : Shared) (H : Hp) (C : Addr) (cl : List (Str × Addr)) (fp : List Addr), DTs (X.blk s H scope (compEnvC scope cl C X.env) fp) cls ifs τ)
    (he : ∀ (s : Shared) (H : Hp) (C : Addr) (cl : List (Str × Addr)) (fp : List Addr), DE (X.blk s H scope (compEnvC scope cl C X.env) fp) cls W0 elt ε) (hs : ∀ x, foldedSetIterable iter X.env x = pure x := by intro _; rfl) :
    DF X cls W (.ListComp elt [⟨tg, iter, ifs, 0⟩] scope pos) (eComp ι p (own.map (·.2)) τ ε) := PE.weak (pe_lc (tt := tT ⟨X.K, cls⟩ W0 τ) (te := tE ⟨X.K, cls⟩ W0 (RS ⟨X.K, cls⟩) ε) hc hN hi ok hg ht he hs) fun σ H Q h => x_comp hv h
/-- name = [..]: settled | the slot's own -/
theorem ps_comp {i : Nat} {y : Str} {py : Pos} {elt tg iter : Expr} {ifs : List Expr} {scope : Scope} {own : List (Str × Nat)} {pos spos : Pos} {ι : Da} {p : Pat} {τ : Dt} {ε : De} (hc : X.calm = true) (hN : X.N.Nodup) (hy : X.N[i]? = some y) (hyl : X.env.scope.names.lookup y = some .local)
    (hsw : swapsWith (.ListComp elt [⟨tg, iter, ifs, 0⟩] scope pos) (some (.Name y py)) spos.line X.env = pure true) (hi : DI X cls W tg iter ι) (ok : BlkOk X.N X.env.scope scope own) (hv : ∀ i ∈ p.vars, i ∈ own.map (·.2))
    (hg : ∀ (s : Shared) (H : Hp) (C : Addr) (cl : List (Str × Addr)) (fp : List Addr), PG (X.blk s H scope (compEnvC scope cl C X.env) fp) tg (p.g X.K)) (ht : ∀ (s : Shared) (H : Hp) (C : Addr) (cl : List (Str × Addr)) (fp : List Addr), DTs (X.blk s H scope (compEnvC scope cl C X.env) fp) cls ifs τ)
    (he : ∀ (s : Shared) (H : Hp) (C : Addr) (cl : List (Str × Addr)) (fp : List Addr), DE (X.blk s H scope (compEnvC scope cl C X.env) fp) cls W0 elt ε) (hs : ∀ x, foldedSetIterable iter X.env x = pure x := by intro _; rfl) :
    PS X (.Assign [.Name y py] (.ListComp elt [⟨tg, iter, ifs, 0⟩] scope pos) spos) (tAsg (tE ⟨X.K, cls⟩ W (RF ⟨X.K, cls⟩) (eComp ι p (own.map (·.2)) τ ε)) (gName i)) := PS.weak (ps_setLc (tt := tT ⟨X.K, cls⟩ W0 τ) (te := tE ⟨X.K, cls⟩ W0 (RS ⟨X.K, cls⟩) ε) hc hN hy hyl hsw hi ok hg ht he hs) fun Dn σ H h => x_comp (Q := fun x H1 => gName i x σ H1 Dn.nx) hv h
theorem ds_setC {i : Nat} {st : Stmt} {ε : De} (h : PS X st (tAsg (tE ⟨X.K, cls⟩ W (RF ⟨X.K, cls⟩) ε) (gName i))) : DS X cls W st (sSet i ε) := PS.weak h fun D σ H ⟨en, Γ, S, ρ, G, s, p⟩ =>
  ⟨Γ, S, ρ, G, s.mem, post_after s p fun d S1 ρ1 G1 H1 v m n s1 r p1 => by
    obtain ⟨G2, m2, n2, r2⟩ := RF.settle s.mem n m r
    exact p1 _ _ _ _ ((s.step m2 n2).setv i r2)⟩
theorem ds_ownC {i : Nat} {st : Stmt} {ε : De} (h : PS X st (tAsg (tE ⟨X.K, cls⟩ W (RF ⟨X.K, cls⟩) ε) (gName i))) : DS X cls W st (sOwn i ε) := PS.weak h fun D σ H ⟨en, Γ, S, ρ, G, s, p⟩ =>
  ⟨Γ, S, ρ, G, s.mem, post_after s p fun d S1 ρ1 G1 H1 v m n s1 r p1 => by
    obtain ⟨a, rfl, na, h0, hg, r⟩ := r
    exact p1 _ _ _ _ (s.seto i n m na h0 hg r)⟩
end
end DL

namespace DL
open PySem PySem.Spec PyProof.Rows L2

/-! ### a list, a tuple or a text is walked -/
def iSeqA (K : PySem.W.Frag) (tl : TE) : TI := fun σ H R => tl σ H fun x H1 => (∃ a, x = .ref a ∧ (∃ xs, SqL K H1 a xs) ∧ R (Itl K a) H1) ∨ (∃ a, x = .ref a ∧ (∃ xs, SqT K H1 a xs) ∧ R (Itt K a) H1) ∨ ∃ z, x = .str z ∧ R (Its z) H1
theorem pi_any {X : Cx} {tg l : Expr} {tl : TE} (hl : PE X l tl) : PI X tg l (iSeqA X.K tl) := by
  refine ⟨fun pins s σ H R I h => ?_⟩
  refine thn (hl.run pins s σ H _ I h) fun v s1 ⟨x, H1, I1, r1, q1⟩ => ?_
  rcases q1 with ⟨a, e, ⟨xs, hq⟩, q⟩ | ⟨a, e, ⟨xs, hq⟩, q⟩ | ⟨z, e, q⟩
  · subst e
    cases r1
    obtain ⟨its, rv, p, hz⟩ := I1.list hq
    refine wpAny_pyIter_list p.isList ?_
    refine ⟨s1.heap.objs.size, [s1.heap.objs.size], _, _, H1, rfl, I1.kept (t' := s1.toks) fun b o e => Heap.get?_push_of_some _ e, turn_list a _, ⟨_, Heap.get?_push_size _ rfl, rfl, rfl⟩, fun b hb => ?_, q⟩
    have e : b = s1.heap.objs.size := by simpa using hb
    subst e
    exact I1.fpOk (Nat.le_refl _) (I1.hok.fresh (Nat.le_refl _))
  · subst e
    cases r1
    obtain ⟨its, rv, p, hz⟩ := I1.tuple hq
    refine wpAny_pyIter_tuple (show s1.heap.IsTuple a its.toArray from p) ?_
    refine ⟨s1.heap.objs.size, [s1.heap.objs.size], _, _, H1, rfl, I1.kept (t' := s1.toks) fun b o e => Heap.get?_push_of_some _ e, turn_tuple a _, ⟨_, Heap.get?_push_size _ rfl, rfl, rfl⟩, fun b hb => ?_, q⟩
    have e : b = s1.heap.objs.size := by simpa using hb
    subst e
    exact I1.fpOk (Nat.le_refl _) (I1.hok.fresh (Nat.le_refl _))
  · subst e
    obtain ⟨t, rfl⟩ := r1
    cases ha : z.cps.all (· < 128)
    · exact wpAny_pyIter_wide ha (pi_one (tk := s1.toks) I1 _ (turn_str _ z t "str_iterator" (.inr rfl)) ⟨_, Heap.get?_push_size _ rfl, rfl, rfl⟩ q)
    · exact wpAny_pyIter_ascii ha (pi_one (tk := s1.toks) I1 _ (turn_str _ z t "str_ascii_iterator" (.inl rfl)) ⟨_, Heap.get?_push_size _ rfl, rfl, rfl⟩ q)
def items : D → Option (List D)
  | .lst xs => some xs
  | .tup xs => some xs
  | .scr ns => some (ns.map .int)
  | .str z => some (z.cps.toList.map fun c => .str ⟨#[c]⟩)
  | _ => none
def iA (a : De) : Da := fun Γ S => (a Γ S).bind fun x S1 => ofO (items x) S1
theorem src_str {C : Cn} {z : Str} {ρ0 : List Addr} {G0 H0 : Hp} : SrcOk C (Its z) (z.cps.toList.map fun c => .str ⟨#[c]⟩) ρ0 G0 H0 where
  go := fun S ρ G H i m s _ _ hi => by
    show i < z.cps.size
    simpa using hi
  yld := fun S ρ G H i x H' d m s pr _ hd y => by
    obtain ⟨rfl, c, hc, rfl⟩ := y
    rw [List.getElem?_map, Array.getElem?_toList, hc] at hd
    cases hd
    exact ⟨G, m, .refl, rep_str.mpr rfl⟩
  stop := fun S ρ G H m s _ _ => by
    show z.cps.size ≤ _
    simp
theorem src_scr {C : Cn} {a : Addr} {ns : List Int} {ρ0 : List Addr} {G0 H0 : Hp} (h : SqL C.K G0 a (ns.map V.int)) : SrcOk C (Itl C.K a) (ns.map .int) ρ0 G0 H0 where
  go := fun S ρ G H i m s _ _ hi => ⟨ns.map V.int, (ns.map V.int)[i]'(by simpa using hi), (m.sub.back s).sqL h, List.getElem?_eq_getElem _⟩
  yld := fun S ρ G H i x H' d m s pr _ hd y => by
    obtain ⟨rfl, y⟩ := y
    have e := y _ ((m.sub.back s).sqL h)
    rw [List.getElem?_map] at hd e
    cases z : ns[i]? with
    | none => rw [z] at hd; cases hd
    | some n =>
      rw [z] at hd e
      cases hd; cases e
      exact ⟨G, m, .refl, rep_int.mpr rfl⟩
  stop := fun S ρ G H m s _ _ => ⟨ns.map V.int, (m.sub.back s).sqL h, by simp⟩
section
variable {X : Cx} {cls : Nat → Addr} {W : WX} {e tg : Expr} {ε : De}
theorem di_a (h : DE X cls W e ε) : DI X cls W tg e (iA ε) := PI.weak (pi_any h) fun σ H R h => by
  obtain ⟨Γ, S, ρ, G, m, p⟩ := x_iter h
  refine ⟨Γ, S, ρ, G, m, p.mono fun v H1 ⟨d, xs, ρ1, G1, r, hd, s, k⟩ => ?_⟩
  cases d <;> try cases hd
  · rw [rep_str] at r; subst r
    exact .inr (.inr ⟨_, rfl, k _ src_str⟩)
  · obtain ⟨a, vs, rfl, h1, h2⟩ := rep_lst.mp r
    exact .inl ⟨a, rfl, ⟨vs, SqL.of (s.lst h1)⟩, k _ (src_list h1 h2)⟩
  · obtain ⟨a, vs, rfl, h1, h2⟩ := rep_tup.mp r
    exact .inr (.inl ⟨a, rfl, ⟨vs, s.sqT h1⟩, k _ (src_tup h1 h2)⟩)
  · obtain ⟨a, rfl, h1⟩ := rep_scr.mp r
    exact .inl ⟨a, rfl, ⟨_, s.sqL h1⟩, k _ (src_scr h1)⟩
end
/-! ### names of the module -/
section
variable {X : Cx} {cls : Nat → Addr} {W : WX} {x : Str} {pos : Pos}
theorem de_gstr {z : Str} (hm : ∃ t : Tok, X.mg x = some (.str z t)) (hg : Gl X x := by rfl) (hd : (x == ("__debug__" : Str)) = false := by decide) : DE X cls W (.Name x pos) (eC (.str z)) := de_c (v := .str z) (pe_glob hg hm.choose_spec ⟨_, rfl⟩ hd) fun _ _ => rep_str.mpr rfl
theorem de_gint {z : Int} (hm : ∃ t : Tok, X.mg x = some (.int z t)) (hg : Gl X x := by rfl) (hd : (x == ("__debug__" : Str)) = false := by decide) : DE X cls W (.Name x pos) (eC (.int z)) := de_c (v := .int z) (pe_glob hg hm.choose_spec ⟨_, rfl⟩ hd) fun _ _ => rep_int.mpr rfl
/-- a written tuple of texts -/
inductive StrsV : List Str → List Value → Prop
  | nil : StrsV [] []
  | cons {z : Str} {t : Tok} {zs : List Str} {us : List Value} (h : StrsV zs us) : StrsV (z :: zs) (.str z t :: us)
theorem StrsV.vals : ∀ {zs : List Str} {us : List Value}, StrsV zs us → Vals (zs.map V.str) us
  | _, _, .nil => .nil
  | _, _, .cons (t := t) h => .cons ⟨t, rfl⟩ h.vals
theorem reps_strs {C : Cn} {ρ : List Addr} {G : Hp} : ∀ {zs : List Str}, Reps C ρ G (zs.map D.str) (zs.map V.str)
  | [] => .nil
  | z :: zs => .cons (rep_str.mpr rfl) reps_strs
theorem de_gtup {zs : List Str} (hm : ∃ a us dd n sl, X.mg x = some (.ref a) ∧ X.K.lookup a = some ⟨.type "tuple", dd, .seq us.toArray n, sl⟩ ∧ StrsV zs us ∧ us.length ≤ sizeLine)
    (hg : Gl X x := by rfl) (hd : (x == ("__debug__" : Str)) = false := by decide) : DE X cls W (.Name x pos) (eC (.tup (zs.map D.str))) := by
  obtain ⟨a, us, dd, n, sl, hm, hk, hu, hl⟩ := hm
  exact de_c (v := .ref a) (pe_glob hg hm rfl hd) fun ρ G => rep_tup.mpr ⟨a, zs.map V.str, rfl, .inr ⟨_, us.toArray, n, hk, rfl, rfl, by simpa using hl, hu.vals⟩, reps_strs⟩
end
def fuel : Nat := 1000000
/-! ### defs by the number of calls -/
abbrev Rec := Nat → List D → List D → Res D
section
variable {P : Program} {w : World} {K : PySem.W.Frag} {mg : Str → Option Value} {base : Heap} {cls : Nat → Addr}
theorem fn_stuck {k : Nat} {f : Addr} {fd : FuncData} {ps : List Str} {C : Cn} {F : List D → List D → Res D} (h : ∀ ds S, F ds S = .stuck) : FnOk P w K mg base (L2.CX P w) k f fd ps (spD C ps.length F) := by
  have no : ∀ vs H Q E, ¬ spD C ps.length F vs H Q E := fun vs H Q E h' => by
    obtain ⟨S, ρ, G, ds, _, _, _, z⟩ := h'
    rw [h] at z; exact z
  exact ⟨fun vs H Q E h => absurd h (no vs H Q E), fun A outer s H args us vs Q E _ _ _ _ h => absurd h (no vs H Q E)⟩
def spLaw (K : PySem.W.Frag) : Sp := fun vs H Q _ => ∃ (a : Addr) (ns : List Int), vs = [.ref a] ∧ SqL K H a (ns.map V.int) ∧ ns.length ≤ 63 ∧ ∀ H', Q (.bl true) H'
theorem law_imp {k : Nat} {f : Addr} {fd : FuncData} {ps : List Str} {F : List D → List D → Res D} (h : FnOk P w K mg base (L2.CX P w) k f fd ps (spD ⟨K, cls⟩ 1 F)) (h0 : ∀ i, cls (i + 1000) = 0) (hF : ∀ ns : List Int, ns.length ≤ 63 → ∃ S, F [.scr ns] [] = .ok (.bl true) S) :
    FnOk P w K mg base (L2.CX P w) k f fd ps (spLaw K) := h.imp fun vs H Q E ⟨a, ns, e, hS, hl, q⟩ => by
  subst e
  obtain ⟨S', hS'⟩ := hF ns hl
  refine ⟨[], [], H, [.scr ns], ⟨⟨fun a o h => ⟨o, h, .inl rfl⟩, fun i z => absurd (h0 i) z⟩, fun i d h => by simp at h, fun i d h => by simp at h, fun i j d d' a h => by simp at h, fun i d h => by simp at h, fun a h => by simp at h, rfl, List.nodup_nil, rfl, fun i x h => by simp at h⟩, .cons (rep_scr.mpr ⟨a, rfl, hS⟩) .nil, rfl, ?_⟩
  rw [hS']
  intro v ρ' G' H' m n r
  rw [rep_bl.mp r]
  exact q H'
end
end DL

namespace DL
open PySem PySem.Spec PyProof.Rows L2
/-! ### defs that run where no repr is under way -/
structure RoomG (k : Nat) (A : Around) : Prop extends Room k A where
  gd : A.guards = some []
theorem RoomG.deep {k : Nat} {A : Around} (r : RoomG (k + 1) A) (env : Env) : RoomG k (A.deeper env) := ⟨r.toRoom.deeper env, r.gd⟩
theorem RoomG.less {j k : Nat} {A : Around} (r : RoomG k A) (h : j ≤ k) : RoomG j A := ⟨r.toRoom.mono h, r.gd⟩
structure FnG (P : Program) (w : World) (K : PySem.W.Frag) (mg : Str → Option Value) (base : Heap) (k : Nat) (f : Addr) (fd : FuncData) (ps : List Str) (sp : Sp) : Prop where
  lng : ∀ vs H Q E, sp vs H Q E → vs.length = ps.length
  goes : ∀ (A : Around) (o : List Env) (s : Shared) (H : Hp) (ar : Args) (us : List Value) (vs : List V) (Q : VK) (E : XK), RoomG k A → Env0 P w K mg base A o s H → BindsTo s fd ar (ps.zip us) → Vals vs us → sp vs H Q E →
    codeAny (model P w) A (.call (.ref f) ar) (CR (L2.CX P w) o P w H s Q E) s
section
variable {P : Program} {w : World} {K : PySem.W.Frag} {mg : Str → Option Value} {base : Heap} {cls : Nat → Addr}
theorem FnG.weak {k : Nat} {f : Addr} {fd : FuncData} {ps : List Str} {sp sp2 : Sp} (F : FnG P w K mg base k f fd ps sp) (i : ∀ vs H Q E, sp2 vs H Q E → sp vs H Q E) : FnG P w K mg base k f fd ps sp2 :=
  ⟨fun vs H Q E h => F.lng vs H Q E (i _ _ _ _ h), fun A o s H ar us vs Q E r e b v h => F.goes A o s H ar us vs Q E r e b v (i _ _ _ _ h)⟩
theorem fnG_stuck {k : Nat} {f : Addr} {fd : FuncData} {ps : List Str} {C : Cn} {F : List D → List D → Res D} (h : ∀ ds S, F ds S = .stuck) : FnG P w K mg base k f fd ps (spD C ps.length F) := by
  have no : ∀ vs H Q E, ¬ spD C ps.length F vs H Q E := fun vs H Q E h' => by
    obtain ⟨S, ρ, G, ds, _, _, _, z⟩ := h'
    rw [h] at z; exact z
  exact ⟨fun vs H Q E h => absurd h (no vs H Q E), fun A o s H ar us vs Q E _ _ _ _ h => absurd h (no vs H Q E)⟩
theorem lawG_imp {k : Nat} {f : Addr} {fd : FuncData} {ps : List Str} {F : List D → List D → Res D} (h : FnG P w K mg base k f fd ps (spD ⟨K, cls⟩ 1 F)) (h0 : ∀ i, cls (i + 1000) = 0) (hF : ∀ ns : List Int, ns.length ≤ 63 → ∃ S, F [.scr ns] [] = .ok (.bl true) S) :
    FnG P w K mg base k f fd ps (spLaw K) := h.weak fun vs H Q E ⟨a, ns, e, hS, hl, q⟩ => by
  subst e
  obtain ⟨S', hS'⟩ := hF ns hl
  refine ⟨[], [], H, [.scr ns], ⟨⟨fun a o h => ⟨o, h, .inl rfl⟩, fun i z => absurd (h0 i) z⟩, fun i d h => by simp at h, fun i d h => by simp at h, fun i j d d' a h => by simp at h, fun i d h => by simp at h, fun a h => by simp at h, rfl, List.nodup_nil, rfl, fun i x h => by simp at h⟩, .cons (rep_scr.mpr ⟨a, rfl, hS⟩) .nil, rfl, ?_⟩
  rw [hS']
  intro v ρ' G' H' m n r
  rw [rep_bl.mp r]
  exact q H'
theorem defG_ok {x qual : Str} {st : Stmt} {f : Addr} {fd : FuncData} {N ps : List Str} {k : Nat} {δ : Ds} (F : Fun K x qual st f fd) (Sc : FnScope N ps (defScope st))
    (hbody : ∀ (cdv : Value) (A : Around) (outer : List Env) (s : Shared) (H : Hp) (E : XK), RoomG k (A.deeper (envOfC qual (defScope st) s.heap.objs.size f cdv)) →
      DSs (cxOf (L2.CX P w) P w K mg base N qual (defScope st) f cdv A outer s H E) cls (fun c d _ H => E c d H) (defBody st) δ) : FnG P w K mg base (k + 1) f fd ps (spD ⟨K, cls⟩ ps.length (bodyRun N.length δ)) := by
  obtain ⟨oc, od, kV, doc, pm, an, cdv, ct, osl, rfl, lk, hcd⟩ := F.ex
  have ln : ∀ vs H Q E, spD ⟨K, cls⟩ ps.length (bodyRun N.length δ) vs H Q E → vs.length = ps.length := fun vs H Q E h => by obtain ⟨_, _, _, _, _, _, h, _⟩ := h; exact h
  refine ⟨ln, fun A o s0 H ar us vs Q E rm e0 bd rv h => ?_⟩
  refine LamX.run_ofS lk hcd Sc rm.toRoom e0 bd rv (ln _ _ _ _ h) fun _ => ⟨_, hbody cdv A o s0 H E (rm.deep _), ?_⟩
  obtain ⟨S, ρ, G, ds, m, r, hl, h⟩ := h
  refine ⟨⟨ρ, G, H, G, ρ, H⟩, _, S, ρ, G, ⟨start_mem m r, .refl, fun i d a h1 h2 => ?_, .refl, List.prefix_refl _, .refl⟩, ?_⟩
  · exfalso
    have hm := List.mem_of_getElem? h1
    rcases List.mem_append.mp hm with z | z
    · obtain ⟨_, _, e⟩ := List.mem_map.mp z; cases e
    · cases (List.eq_of_mem_replicate z)
  · unfold bodyRun at h
    cases q : δ (ds.map Sl.val ++ List.replicate (N.length - ds.length) Sl.non) S with
    | next Γ S' => rw [q] at h; exact fun ρ' G' H' σ' s' => h .non ρ' G' H' s'.mem.toS s'.nx (rep_non.mpr rfl)
    | ret d S' => rw [q] at h; exact fun v ρ' G' H' m' n' _ r' => h v ρ' G' H' m' n' r'
    | exc e Γ S' => rw [q] at h; exact fun c dx ρ' G' H' σ' s' er => h c dx ρ' G' H' s'.mem.toS s'.nx er
    | brk _ _ => rw [q] at h; exact h.elim
    | cont _ _ => rw [q] at h; exact h.elim
    | stuck => rw [q] at h; exact h.elim
end
/-! ### a call -/
section
variable {X : Cx} {cls : Nat → Addr} {W : WX} {k : Nat} {f : Addr} {fd : FuncData} {ps : List Str} {x : Str} {p pos : Pos} {e : Expr} {es : List Expr} {α : Da} {F : List D → List D → Res D} {sp : Sp}
theorem goesG {pins : List (Addr × Obj)} {σ : L2.St} {H : Hp} {s : Shared} {Q : VK} {E : XK} {us : List Value} {vs : List V} (Fn : FnG X.prog X.w X.K X.mg X.base k f fd ps sp) (rm : RoomG k X.A) (bd : Binds X.K fd ps []) (pa : PassesAt (L2.CX X.prog X.w) X σ E)
    (I : Inv X pins σ H s) (rv : Vals vs us) (h : sp vs H Q E) : wpAny (model X.prog X.w) X.A (call (.ref f) us) (EP X pins σ Q) X.xe s := by
  have b2 : BindsTo s fd ⟨us, []⟩ (ps.zip us) := by
    have z := bd s us I.kIn (by rw [List.append_nil, ← rv.length]; exact Fn.lng _ _ _ _ h)
    rwa [List.append_nil] at z
  refine wpAny_call (codeAny_mono (Fn.goes X.A X.stack s H ⟨us, []⟩ us vs Q E rm I.env0 b2 rv h) ?_)
  rintro (er | ⟨u⟩ | _ | _ | _) s2 hq
  all_goals first | exact pa pins H s er s2 I hq | exact I.after hq | exact hq.elim
theorem exG {δ : Da} {σ : L2.St} {H : Hp} {Q : VK} (tk : Takes X W) (hal : ALen δ ps.length) (h : tE ⟨X.K, cls⟩ W (RS ⟨X.K, cls⟩) (eCall F δ) σ H Q) :
    tA ⟨X.K, cls⟩ W δ σ H fun vs H1 => spD ⟨X.K, cls⟩ ps.length F vs H1 Q (fun c d H2 => W c d σ H2) := by
  obtain ⟨Γ, S, ρ, G, m, p⟩ := h
  refine ⟨Γ, S, ρ, G, m, ?_⟩
  unfold eCall at p
  cases q : δ Γ S with
  | ok ds S1 =>
    rw [q] at p
    intro vs ρ1 G1 H1 m1 n1 r1
    refine ⟨S1, ρ1, G1, ds, m1.toS, r1, by rw [← r1.length]; exact hal.le _ _ _ _ q, ?_⟩
    simp only [Res.bind_ok] at p
    cases z : F ds S1 with
    | ok d S2 => rw [z] at p; exact fun v ρ2 G2 H2 m2 n2 r2 => p v ρ2 G2 H2 (m1.step n2 m2) (n1.trans n2) r2
    | exc x S2 => rw [z] at p; exact fun c dx ρ2 G2 H2 m2 n2 r2 => p c dx ρ2 G2 H2 (m1.step n2 m2) (n1.trans n2) r2
    | stuck => rw [z] at p; exact p
  | exc x S1 => rw [q] at p; exact p
  | stuck => rw [q] at p; exact p
theorem de_callG (Fn : FnG X.prog X.w X.K X.mg X.base k f fd ps (spD ⟨X.K, cls⟩ ps.length F)) (tk : Takes X W) (rm : RoomG k X.A) (hg : Gl X x) (hm : X.mg x = some (.ref f)) (hk : PySem.W.keepIn X.K (.ref f) = true) (bd : Binds X.K fd ps [])
    (ha : DA X cls W (e :: es) α) (hal : ALen α ps.length) (hdb : (x == ("__debug__" : Str)) = false := by decide) (he : starEach (e :: es) X.env = (false, eval e X.env) :: starEach es X.env := by rfl) (pl : (backTo pos (starEach es X.env)).any (·.1) = false := by rfl) :
    DE X cls W (.Call (.Name x p) (e :: es) [] pos) (eCall F α) := ⟨fun pins s σ H Q I h => by
  refine wpAny_Call_Name_kw (ld_glob I hg hm ?_ hdb)
  exact PySem.W.callWith_K (h₀ := X.base) I.ok.mod.kin hk (thn (ha.run pos pins s σ H _ I (exG tk hal h)) fun us s1 ⟨vs, H1, I1, rv, q⟩ => ⟨I1.kIn, goesG Fn rm bd (passAt tk σ) I1 rv q⟩) he pl⟩
theorem de_call0G (Fn : FnG X.prog X.w X.K X.mg X.base k f fd [] (spD ⟨X.K, cls⟩ 0 F)) (tk : Takes X W) (rm : RoomG k X.A) (hg : Gl X x) (hm : X.mg x = some (.ref f)) (hk : PySem.W.keepIn X.K (.ref f) = true) (bd : Binds X.K fd [] [])
    (hdb : (x == ("__debug__" : Str)) = false := by decide) : DE X cls W (.Call (.Name x p) [] [] pos) (eCall F aNil) := ⟨fun pins s σ H Q I h => by
  refine wpAny_Call_Name_kw (ld_glob I hg hm ?_ hdb)
  refine PySem.W.callWith_K0 I.kIn hk (goesG (us := []) (vs := []) Fn rm bd (passAt tk σ) I .nil ?_)
  obtain ⟨Γ, S, ρ, G, m, p⟩ := exG (ps := []) (δ := aNil) tk ALen.nil h
  exact p [] ρ G H m .refl .nil⟩
end
end DL

namespace DL
open PySem PySem.Spec PyProof.Rows L2
/-! ### the law's end -/
def scrO (vs : List Value) : Obj := { cls := .type "list", data := .seq vs.toArray }
/-- the script alone -/
def hpOne (K : PySem.W.Frag) (a : Addr) (u : HO) : Hp := fun b => if b = a ∧ K.lookup a = none then some u else none
theorem hpOne_some {K : PySem.W.Frag} {a b : Addr} {u t : HO} (h : hpOne K a u b = some t) : b = a ∧ K.lookup a = none ∧ t = u := by
  unfold hpOne at h
  split at h
  · rename_i q; cases h; exact ⟨q.1, q.2, rfl⟩
  · cases h
theorem hpOne_off {K : PySem.W.Frag} {a b : Addr} {u : HO} (h : b = a → K.lookup a ≠ none) : hpOne K a u b = none := if_neg fun q => h q.1 q.2
section
variable {P : Program} {w : World} {K : PySem.W.Frag} {mg mb : Str → Option Value} {k : Nat} {fa a : Addr} {fd : FuncData} {x : Str} {s : Shared} {vs : List Value} {ns : List Int}
theorem law_endG (kin : K.In s.heap) (mN : s.heap.Ns mainGlobals mg) (bN : s.heap.Ns builtinsNs mb) (bb : ∀ y : Str, y ≠ "__name__" → mb y = bootBuiltins y) (nl : s.heap.NoLimit) (ng : s.gens = #[])
    (ao : s.heap.get? a = some (scrO vs)) (ii : IntsAre vs ns) (il : ns.length ≤ 63) (rm : RoomG k callerA)
    (F : ∀ base : Heap, K.In base → base.Ns mainGlobals mg → FnG P w K mg base k fa fd [x] (spLaw K)) (bd : ∀ (s : Shared) (u : Value), BindsTo s fd ⟨[u], []⟩ [(x, u)]) :
    codeAny (model P w) callerA (.call (.ref fa) ⟨[.ref a], []⟩) (fun r t => r = .ok (.ret (.bool true)) ∧ OldK s.heap t.heap ∧ t.os = s.os ∧ AllBare t.gens) s := by
  have iv := vals_ints ii
  have sl : ns.length ≤ sizeLine := Nat.le_trans il (by decide)
  obtain ⟨H, eH⟩ : ∃ H, H = hpOne K a (.frz (scrO vs) (.lst (ns.map V.int))) := ⟨_, rfl⟩
  -- the heap without the script
  have low : ∀ (b : Addr) (o : Obj), s.heap.get? b = some o → (b = a → K.lookup a ≠ none) → (hidT s.heap H).get? b = some o := fun b o e n => hidT_get e (by rw [eH]; exact hpOne_off n)
  have dic : ∀ {b : Addr} {o : Obj} {es : Array DictEntry} {n : Nat}, s.heap.get? b = some o → o.data = .dict es n → (hidT s.heap H).get? b = some o := fun {b o es n} e d => low b o e fun q => by
    subst q
    rw [ao] at e; cases e
    exact (show False by have d2 : Data.seq vs.toArray _ = Data.dict es n := d; cases d2).elim
  have nsD : ∀ {b : Addr} {m : Str → Option Value}, s.heap.Ns b m → (hidT s.heap H).Ns b m := fun {b m} ⟨o, es, n, e, d, r⟩ => ⟨o, es, n, dic e d, d, r⟩
  have kinD : K.In (hidT s.heap H) := fun b o e => low b o (kin b o e) fun q => by subst q; rw [e]; exact nofun
  have md : L2.Mod K mg (hidT s.heap H) := ⟨kinD, nsD mN, ⟨mb, nsD bN, bb⟩, by obtain ⟨mc, u1, u2⟩ := nl; exact ⟨mc, nsD u1, u2⟩⟩
  have held : HOk P w H s.heap := fun b t e => by
    rw [eH] at e
    obtain ⟨rfl, _, rfl⟩ := hpOne_some e
    exact ⟨ao, by rw [List.length_map]; exact sl, vs, _, iv, ao⟩
  have ev : Env0 P w K mg (hidT s.heap H) callerA [] s H := ⟨rfl, md, fun b o e => of_hidT e, Nat.le_of_eq (hidT_size _ _), trivial, fun b z => (List.not_mem_nil z).elim, held, .of_eq ng⟩
  have sq : SqL K H a (ns.map V.int) := by
    cases q : K.lookup a with
    | none => exact .inl (.inr ⟨scrO vs, by rw [eH]; exact if_pos ⟨rfl, q⟩⟩)
    | some o =>
      have e := kin a o q
      rw [ao] at e; cases e
      exact .inr ⟨_, vs.toArray, _, q, rfl, rfl, rfl, by rw [List.size_toArray, ii.length]; exact sl, by simpa using iv⟩
  refine codeAny_mono ((F _ kinD (nsD mN)).goes callerA [] s H ⟨[.ref a], []⟩ [.ref a] [.ref a] (fun v _ => v = .bl true) (fun _ _ _ => False) rm ev (bd s (.ref a)) (.cons rfl .nil) ⟨a, ns, rfl, sq, il, fun _ => rfl⟩) ?_
  intro r t h
  match r, h with
  | .error er, h => obtain ⟨_, _, _, _, _, _, _, _, _, _, _, _, z⟩ := h; exact z.elim
  | .ok .next, h => exact h.elim
  | .ok .brk, h => exact h.elim
  | .ok .cont, h => exact h.elim
  | .ok (.ret u), h =>
    obtain ⟨v, H2, os, bare, un, held2, rv, q⟩ := h
    have qv : v = .bl true := q
    subst qv
    obtain rfl : u = Value.bool true := rv
    refine ⟨rfl, OldK.of_keep fun b o e => ?_, os, bare⟩
    cases z : H b with
    | none => exact un.keep b o e z (fun c => List.not_mem_nil c) (fun c => List.not_mem_nil c)
    | some t2 =>
      have z2 := z
      rw [eH] at z2
      obtain ⟨rfl, _, rfl⟩ := hpOne_some z2
      rw [ao] at e; cases e
      exact (held2 b _ (un.frzs b _ _ z)).1
theorem law_headG {l : PySem.W.OpenLaw} {q : Program} {loose : List Str} {XP : (Str → Option Value) → Heap → Prop} {YP : World → Heap → Prop} {d : DefRec} {K : Params → PySem.W.Frag}
    (hn : l.most = some 63) (hdf : d.params.defaults = []) (rm : RoomG k callerA) (hY : ∀ (w : World) (h : Heap), YP w h → (K w.params).In h)
    (F : ∀ (w : World) (mg : Str → Option Value) (fa : Addr) (h : Heap), (K w.params).In h → h.Ns mainGlobals mg → mg d.name = some (.ref fa) →
      ∃ fd : FuncData, (∀ (s : Shared) (u : Value), BindsTo s fd ⟨[u], []⟩ [(x, u)]) ∧ ∀ base : Heap, (K w.params).In base → base.Ns mainGlobals mg → FnG l.prog w (K w.params) mg base k fa fd [x] (spLaw (K w.params))) :
    PySem.W.WalkO q loose XP YP l.row.toRowW d [] (fun f vs => PySem.call f vs) := by
  refine Att.attach_callB hn hdf fun w s0 s1 mg mb fa o pm cd doc a vs ns G Y ho hd hcd hmg hobj hints hlen hbits hg => ?_
  obtain ⟨fd, bd, hF⟩ := F w mg fa _ (hY w _ Y) G.T.g hmg
  exact law_endG (hY w _ Y) G.T.g G.T.b G.T.builtins G.T.nolimit hg hobj hints hlen rm hF bd
end
end DL

namespace DL
open PySem PySem.Spec PyProof.Rows L2
section
variable {C : Cn} {X : Cx} {cls : Nat → Addr} {W : WX} {a b c e : Expr} {δa δb δc : De} {pos p : Pos}
/-! ### a ≤ b ≤ c -/
theorem x_chain {R R' : R2} {f g : D → D → Option D} (hf : R2Ok ⟨X.K, cls⟩ (RS ⟨X.K, cls⟩) R f) (hg : R2Ok ⟨X.K, cls⟩ (RS ⟨X.K, cls⟩) R' g) {σ : L2.St} {H : Hp} {Q : VK} (h : tE ⟨X.K, cls⟩ W (RS ⟨X.K, cls⟩) (eChain f g δa δb δc) σ H Q) :
    tChain R R' (tE ⟨X.K, cls⟩ W (RO ⟨X.K, cls⟩) δa) (tE ⟨X.K, cls⟩ W (RO ⟨X.K, cls⟩) δb) (tE ⟨X.K, cls⟩ W (RO ⟨X.K, cls⟩) δc) σ H Q := by
  obtain ⟨Γ, S, ρ, G, m, p⟩ := h
  refine ⟨Γ, S, ρ, G, m, (Post.seq back_RS p).mono fun x H1 ⟨dx, S1, ρ1, G1, m1, n1, r1, p1⟩ => ⟨Γ, S1, ρ1, G1, m1, (Post.seq back_RS p1).mono fun y H2 ⟨dy, S2, ρ2, G2, m2, n2, r2, p2⟩ => ?_⟩⟩
  cases q : f (deref S2 dx) (deref S2 dy) with
  | none => rw [q] at p2; exact p2.elim
  | some k =>
    rw [q] at p2
    simp only [ofO_some, Res.bind_ok] at p2
    refine hf S2 ρ2 G2 H2 x y k _ _ _ m2.toS (m2.read (RO.step (H1 := H2) n2 r1)) (m2.read r2) q fun v ρ3 G3 H3 m3 n3 r3 => ?_
    cases k <;> try exact p2.elim
    rename_i kb
    refine ⟨kb, rep_bl.mp r3, ?_⟩
    have m3' := m2.step n3 m3
    cases kb with
    | false => exact p2.here (S := S2) m3' n3 (rep_bl.mpr rfl)
    | true =>
      have p3 := Post.shift back_RS p2 n3
      refine ⟨Γ, S2, ρ3, G3, m3', (Post.seq back_RS p3).mono fun z H4 ⟨dz, S4, ρ4, G4, m4, n4, r4, p4⟩ => ?_⟩
      obtain ⟨d, hd, p5⟩ := ofO_post p4
      exact hg S4 ρ4 G4 H4 y z d _ _ Q m4.toS (m4.read (RO.step (H1 := H4) (n3.trans n4) r2)) (m4.read r4) hd fun v ρ5 G5 H5 m5 n5 r5 => p5.here (m4.step n5 m5) n5 r5
theorem de_chain (ha : DO X cls W a δa) (hb : DO X cls W b δb) (hc : DO X cls W c δc) (hm : lastMarks [.LtE, .LtE] [b, c] = false := by with_unfolding_all rfl) : DE X cls W (.Compare a [.LtE, .LtE] [b, c] pos) (eChain oLe oLe δa δb δc) :=
  PE.weak (pe_chain or_le or_le ha hb hc hm) fun _ _ _ h => x_chain ok_ord ok_ord h
theorem dt_chain (ha : DO X cls W a δa) (hb : DO X cls W b δb) (hc : DO X cls W c δc) (hm : lastMarks [.LtE, .LtE] [b, c] = false := by with_unfolding_all rfl) : DT X cls W (.Compare a [.LtE, .LtE] [b, c] pos) (tB (eChain oLe oLe δa δb δc)) :=
  PT.weak (pt_chain or_le or_le ha hb hc hm) fun σ H Q ⟨Γ, S, ρ, G, m, p⟩ => by
    refine x_chain (W := W) (cls := cls) ok_ord ok_ord ⟨Γ, S, ρ, G, m, (Post.seq back_RB p).mono fun v H1 ⟨d, S1, ρ1, G1, m1, n1, r1, p1⟩ => ?_⟩
    obtain ⟨k, hk, p2⟩ := ofO_post p1
    cases d <;> try cases hk
    exact ⟨k, rep_bl.mp r1, p2.at m1 rfl⟩
/-! ### abs, max, min, sum -/
def dAbs : D → Option D
  | .int i => some (.int (if i < 0 then -i else i))
  | _ => none
def dMax : D → D → Option D
  | .int i, .int j => some (.int (if j > i then j else i))
  | _, _ => none
def dMin : D → D → Option D
  | .int i, .int j => some (.int (if j < i then j else i))
  | _, _ => none
def asInts : List D → Option (List Int)
  | [] => some []
  | .int i :: r => (asInts r).map (i :: ·)
  | _ :: _ => none
def dSum : D → Option D
  | .lst xs => (asInts xs).map fun l => .int l.sum
  | _ => none
theorem reps_ints {ρ : List Addr} {G : Hp} : ∀ {ds : List D} {vs : List V} {l : List Int}, Reps C ρ G ds vs → asInts ds = some l → vs = l.map V.int
  | [], _, _, h, e => by rw [asInts] at e; cases e; exact h.inv0
  | x :: r, _, l, h, e => by
    obtain ⟨v, vs, rfl, h1, h2⟩ := h.inv
    cases x <;> rw [asInts] at e <;> try cases e
    rename_i i
    cases q : asInts r with
    | none => rw [q] at e; cases e
    | some l' =>
      rw [q] at e; cases e
      rw [reps_ints h2 q, rep_int.mp h1]; rfl
    all_goals exact nofun
theorem rc_abs : RC1 C (RS C) (fun xs H Q => ∃ i, xs = [.int i] ∧ Q (.int (if i < 0 then -i else i)) H) dAbs := fun S ρ G H x d dx Q m rx e q => by
  cases dx <;> try cases e
  rw [rt_int] at rx; subst rx
  exact ⟨_, rfl, q _ _ _ _ m .refl (rep_int.mpr rfl)⟩
theorem rc_max : RC2 C (RS C) (fun xs H Q => ∃ i j, xs = [.int i, .int j] ∧ Q (.int (if j > i then j else i)) H) dMax := fun S ρ G H x y d dx dy Q m rx ry e q => by
  cases dx <;> cases dy <;> try cases e
  rw [rt_int] at rx ry; subst rx; subst ry
  exact ⟨_, _, rfl, q _ _ _ _ m .refl (rep_int.mpr rfl)⟩
theorem rc_min : RC2 C (RS C) (fun xs H Q => ∃ i j, xs = [.int i, .int j] ∧ Q (.int (if j < i then j else i)) H) dMin := fun S ρ G H x y d dx dy Q m rx ry e q => by
  cases dx <;> cases dy <;> try cases e
  rw [rt_int] at rx ry; subst rx; subst ry
  exact ⟨_, _, rfl, q _ _ _ _ m .refl (rep_int.mpr rfl)⟩
theorem rc_sum : RC1 C (RS C) (rSum C.K) dSum := fun S ρ G H x d dx Q m rx e q => by
  cases dx <;> try cases e
  rename_i xs
  obtain ⟨a, vs, rfl, h1, r1⟩ := rx
  simp only [dSum] at e
  cases k : asInts xs with
  | none => rw [k] at e; cases e
  | some l =>
    rw [k] at e; cases e
    have z := reps_ints r1 k
    subst z
    exact ⟨a, l, rfl, SqL.of h1, q _ _ _ _ m .refl (rep_int.mpr rfl)⟩
theorem de_abs (hg : Gl X "abs") (hm : X.mg "abs" = none) (ha : DO X cls W a δa) (he : starEach [a] X.env = (false, eval a X.env) :: starEach [] X.env := by rfl) (hpl : (backTo pos (starEach [] X.env)).any (·.1) = false := by rfl) : DE X cls W (.Call (.Name "abs" p) [a] [] pos) (eUn dAbs δa) :=
  x_c1 back_RS (pe_callB call_abs hg hm (by decide +kernel) (da1 ha he) (by decide) (by decide) he hpl) rc_abs
theorem de_sum (hg : Gl X "sum") (hm : X.mg "sum" = none) (hc : X.calm = true) (ha : DO X cls W a δa) (he : starEach [a] X.env = (false, eval a X.env) :: starEach [] X.env := by rfl) (hpl : (backTo pos (starEach [] X.env)).any (·.1) = false := by rfl) : DE X cls W (.Call (.Name "sum" p) [a] [] pos) (eUn dSum δa) :=
  x_c1 back_RS (pe_callB (cr_sum hc) hg hm (by decide +kernel) (da1 ha he) (by decide) (by decide) he hpl) rc_sum
theorem de_max (hg : Gl X "max") (hm : X.mg "max" = none) (hc : X.calm = true) (ha : DO X cls W a δa) (hb : DO X cls W b δb) (he : starEach [a, b] X.env = (false, eval a X.env) :: starEach [b] X.env := by rfl) (he2 : starEach [b] X.env = (false, eval b X.env) :: starEach [] X.env := by rfl)
    (hpl : (backTo pos (starEach [b] X.env)).any (·.1) = false := by rfl) : DE X cls W (.Call (.Name "max" p) [a, b] [] pos) (eOp dMax δa δb) :=
  x_c2 back_RS (pe_callB (call_max2 hc) hg hm (by decide +kernel) (da2 ha hb he he2) (by decide) (by decide) he hpl) rc_max
theorem de_min (hg : Gl X "min") (hm : X.mg "min" = none) (hc : X.calm = true) (ha : DO X cls W a δa) (hb : DO X cls W b δb) (he : starEach [a, b] X.env = (false, eval a X.env) :: starEach [b] X.env := by rfl) (he2 : starEach [b] X.env = (false, eval b X.env) :: starEach [] X.env := by rfl)
    (hpl : (backTo pos (starEach [b] X.env)).any (·.1) = false := by rfl) : DE X cls W (.Call (.Name "min" p) [a, b] [] pos) (eOp dMin δa δb) :=
  x_c2 back_RS (pe_callB (call_min2 hc) hg hm (by decide +kernel) (da2 ha hb he he2) (by decide) (by decide) he hpl) rc_min
/-! ### repr of lists and tuples -/
def isSq : D → Bool | .lst _ => true | .tup _ => true | _ => false
def dRepr (d : D) : Option D := match toPy d with
  | some q => if isSq d = true ∧ q.showable = true ∧ q.hasDict = false ∧ q.depth ≤ 180 ∧ q.shown.length ≤ sizeLine then some (.str q.shown) else none
  | none => none
theorem call_reprG (hu : X.A.units + 190 < cLine) (gd : X.A.guards = some []) : CallR X (.builtin "repr") (fun xs H Q => ∃ a q, xs = [.ref a] ∧ Dp X.K H (.ref a) q ∧ q.showable = true ∧ q.hasDict = false ∧ q.depth ≤ 180 ∧ q.shown.length ≤ sizeLine ∧ Q (.str q.shown) H) := by
  intro pins s σ H xs us Q I r h
  obtain ⟨a, q, rfl, hd, hs, hD, hdp, hl, k⟩ := h
  obtain ⟨u, rfl, ru⟩ := vals1 r
  obtain ⟨as, rd⟩ := Dp.reads I q _ _ hd ru
  obtain rfl : u = Value.ref a := ru
  exact repr_of_reads' rd hs (fun z => by rw [hD] at z; cases z) gd (by omega) (fun _ _ z => z) (fun h' u tk hk => ⟨.str _, H, I.kept hk, ⟨_, rfl⟩, k⟩) hl
theorem rc_repr : RC1 C (RS C) (fun xs H Q => ∃ a q, xs = [.ref a] ∧ Dp C.K H (.ref a) q ∧ q.showable = true ∧ q.hasDict = false ∧ q.depth ≤ 180 ∧ q.shown.length ≤ sizeLine ∧ Q (.str q.shown) H) dRepr := fun S ρ G H x d dx Q m rx e q => by
  unfold dRepr at e
  split at e
  · rename_i y hy
    split at e
    · rename_i c
      cases e
      obtain ⟨c1, c2, c3, c4, c5⟩ := c
      have dp := dp_rt m.sub rx hy
      have : ∃ a, x = V.ref a := by
        cases dx <;> try cases c1
        · obtain ⟨a, vs, rfl, _⟩ := rx; exact ⟨a, rfl⟩
        · rw [rt_tup] at rx; obtain ⟨a, vs, rfl, _⟩ := rx; exact ⟨a, rfl⟩
      obtain ⟨a, rfl⟩ := this
      exact ⟨a, y, rfl, dp, c2, c3, c4, c5, q _ _ _ _ m .refl (rep_str.mpr rfl)⟩
    · cases e
  · cases e
theorem de_repr {k : Nat} (rm : RoomG k X.A) (hg : Gl X "repr") (hm : X.mg "repr" = none) (ha : DO X cls W a δa) (he : starEach [a] X.env = (false, eval a X.env) :: starEach [] X.env := by rfl) (hpl : (backTo pos (starEach [] X.env)).any (·.1) = false := by rfl) : DE X cls W (.Call (.Name "repr" p) [a] [] pos) (eUn dRepr δa) :=
  x_c1 back_RS (pe_callB (call_reprG (by have := rm.un; omega) rm.gd) hg hm (by decide +kernel) (da1 ha he) (by decide) (by decide) he hpl) rc_repr
end
/-! ### found.reverse() -/
section
variable {X : Cx} {cls : Nat → Addr} {W : WX} {c : Expr} {pos : Pos}
def sRevO (i : Nat) : Ds := fun Γ S => match Γ[i]? with
  | some (.own (.lst xs)) => .next (Γ.set i (.own (.lst xs.reverse))) S
  | _ => .stuck
theorem Reps.rev {C : Cn} {ρ : List Addr} {G : Hp} : ∀ {ds : List D} {vs : List V}, Reps C ρ G ds vs → Reps C ρ G ds.reverse vs.reverse
  | [], _, h => by rw [h.inv0]; exact Reps.nil
  | x :: xs, _, h => by
    obtain ⟨v, r, rfl, h1, h2⟩ := h.inv
    rw [List.reverse_cons, List.reverse_cons]
    exact (Reps.rev h2).append (.cons h1 .nil)
theorem ds_revO (i : Nat) (h : PE X c (tBM0 X.K "list" rReverse (tVar i))) (hs : swapsWith c none pos.line X.env = pure false := by rfl) : DS X cls W (.Expr c pos) (sRevO i) :=
  PS.weak (ps_expr h hs) fun D σ H ⟨en, Γ, S, ρ, G, s, p⟩ => by
    unfold sRevO at p
    split at p
    · rename_i xs hx
      obtain ⟨a, vs, e, h1, r, g, n⟩ := own_at s hx
      refine ⟨_, e, .inl ⟨rfl, vs, SqL.of h1⟩, a, vs, rfl, rfl, h1, ?_⟩
      exact p _ _ _ _ (s.poke hx e ⟨_, upd_same, r.rev⟩)
    · exact p.elim
end
end DL

namespace DL
open PySem PySem.Spec PyProof.Rows L2
/-! ### dicts -/
def dPutX : List Key → List D → Key → D → List D
  | q :: ks, x :: xs, k, d => (if q = k then d else x) :: dPutX ks xs k d
  | _, xs, _, _ => xs
def dPut (ks : List Key) (xs : List D) (k : Key) (d : D) : List Key × List D := if (ks.any fun q => decide (q = k)) = true then (ks, dPutX ks xs k d) else (ks ++ [k], xs ++ [d])
section
variable {C : Cn} {ρ : List Addr} {G H : Hp}
theorem dGet_val : ∀ {ks : List Key} {xs : List D} {vs : List V}, Reps C ρ G xs vs → ks.length = xs.length → ∀ k, match dGet ks xs k with
    | some d => ∃ v, valV (ks.zip vs) k = some v ∧ Rep C ρ G d v
    | none => valV (ks.zip vs) k = none
  | [], [], vs, r, _, k => by
    have e : dGet [] ([] : List D) k = none := by unfold dGet; rfl
    rw [e]; rfl
  | q :: ks, x :: xs, vs, r, hl, k => by
    obtain ⟨v, us, rfl, h1, h2⟩ := r.inv
    rw [dGet]
    by_cases e : q = k
    · rw [if_pos e]
      exact ⟨v, valV_pos (p := (q, v)) e, h1⟩
    · rw [if_neg e]
      have ih := dGet_val (ks := ks) h2 (by simpa using hl) k
      rw [List.zip_cons_cons, valV_neg (p := (q, v)) e]
      exact ih
theorem rt_dct {ks : List Key} {xs : List D} {v : V} : RT C ρ G H (.dct ks xs) v ↔ ∃ a vs, v = V.ref a ∧ Rd H a (.dK (ks.zip vs)) ∧ ks.length = xs.length ∧ Reps C ρ G xs vs := Iff.rfl
end
section
variable {X : Cx} {cls : Nat → Addr} {W : WX} {a b c e : Expr} {δa δb δc : De} {pos p apos cpos : Pos}
def eDct0 : De := fun _ S => .ok (.dct [] []) S
theorem df_dct0 : DF X cls W (.Dict [] [] pos) eDct0 := PE.weak pe_dnewK fun σ H Q ⟨Γ, S, ρ, G, m, q⟩ => fun p hp => by
  obtain ⟨m', n', np, gp⟩ := m.new (o := .dK []) hp
  exact q (.ref p) ρ G _ m' n' ⟨p, rfl, np, hp, gp, [], upd_same, rfl, Reps.nil⟩
def keyV (d : D) (k : Key) : Prop := match d, k with
  | .int i, .inl j => i = j
  | .str x, .inr y => x = y
  | _, _ => False
theorem keyD_v {C : Cn} {ρ : List Addr} {G : Hp} {d : D} {k : Key} {v : V} (h : keyD d = some k) (r : Rep C ρ G d v) : v = kV k := by
  cases d <;> try cases h
  · rw [rep_int] at r; subst r; rfl
  · rw [rep_str] at r; subst r; rfl
theorem dget_rt {C : Cn} {ρ : List Addr} {G H : Hp} {ks : List Key} {xs : List D} {a : Addr} {vs : List V} (h1 : Rd H a (.dK (ks.zip vs))) (hl : ks.length = xs.length) (r : Reps C ρ G xs vs) (q : Key) : ∃ o, DGet H a (kV q) o ∧ match dGet ks xs q with
    | some d => ∃ v, o = some v ∧ Rep C ρ G d v
    | none => o = none := by
  refine ⟨_, .inl ⟨_, q, h1, rfl, rfl⟩, ?_⟩
  have k := dGet_val r hl q
  cases z : dGet ks xs q with
  | some d => rw [z] at k; exact k
  | none => rw [z] at k; exact k
/-- d.get(k, x) -/
def dGet2 (d k x : D) : Option D := match d, keyD k with
  | .dct ks xs, some q => some ((dGet ks xs q).getD x)
  | _, _ => none
def isDct : D → Bool | .dct _ _ => true | _ => false
def eGet2 (a b c : De) : De := fun Γ S => (a Γ S).bind fun x S1 => if isDct (deref S1 x) = true then (b Γ S1).bind fun y S2 => (c Γ S2).bind fun z S3 => ofO (dGet2 (deref S3 x) y z) S3 else .stuck
theorem isDct_rt {C : Cn} {ρ : List Addr} {G H : Hp} {d : D} {v : V} (h : isDct d = true) (r : RT C ρ G H d v) : ∃ a, v = V.ref a ∧ IsD H a := by
  cases d <;> try cases h
  obtain ⟨a, vs, rfl, h1, _, _⟩ := r
  exact ⟨a, rfl, .inl ⟨_, h1⟩⟩
theorem de_dget2 (hu : X.A.units + 1 < cLine) (ha : DO X cls W a δa) (hb : DE X cls W b δb) (hc : DE X cls W c δc) (m : M2 X a "get" apos b c cpos) : DE X cls W (.Call (.Attribute a "get" apos) [b, c] [] cpos) (eGet2 δa δb δc) :=
  PE.weak (pe_dget2 hu ha hb hc m) fun σ H Q ⟨Γ, S, ρ, G, m, p⟩ => by
    refine ⟨Γ, S, ρ, G, m, (Post.seq back_RS p).mono fun x H1 ⟨dx, S1, ρ1, G1, m1, n1, r1, p1⟩ => ?_⟩
    split at p1
    · rename_i hd
      obtain ⟨ad, rfl, isd⟩ := isDct_rt hd (m1.read r1)
      refine ⟨ad, rfl, isd, Γ, S1, ρ1, G1, m1, (Post.seq back_RS p1).mono fun y H2 ⟨dy, S2, ρ2, G2, m2, n2, r2, p2⟩ => ⟨Γ, S2, ρ2, G2, m2, (Post.seq back_RS p2).mono fun z H3 ⟨dz, S3, ρ3, G3, m3, n3, r3, p3⟩ => ?_⟩⟩
      obtain ⟨d, hd3, p4⟩ := ofO_post p3
      have rt3 := m3.read (RO.step (H1 := H3) (n2.trans n3) r1)
      unfold dGet2 at hd3
      split at hd3
      · rename_i ks xs q e1 e2
        rw [e1] at rt3
        obtain ⟨a3, vs, e3, h3, hl, rr⟩ := rt3
        cases e3
        obtain ⟨o, g, k⟩ := dget_rt h3 hl rr q
        have ey := keyD_v e2 (r2.mono n3.ext n3.pre)
        subst ey
        refine ⟨o, g, ?_⟩
        cases z2 : dGet ks xs q with
        | some d2 =>
          rw [z2] at k hd3
          obtain ⟨v, rfl, rv⟩ := k
          cases hd3
          exact p4.at m3 rv
        | none =>
          rw [z2] at k hd3
          subst k
          cases hd3
          exact p4.at m3 r3
      · cases hd3
    · exact p1.elim
end
/-! ### found[k] = e, found a dict of the slot's own -/
section
variable {C : Cn} {ρ : List Addr} {G : Hp}
theorem zip_any : ∀ {ks : List Key} {vs : List V}, ks.length = vs.length → ∀ k, ((ks.zip vs).any fun kv => decide (kv.1 = k)) = ks.any fun q => decide (q = k)
  | [], _, _, _ => rfl
  | q :: ks, v :: vs, h, k => by
    rw [List.zip_cons_cons, List.any_cons, List.any_cons, zip_any (by simpa using h)]
theorem put_zip {d : D} {v : V} (rd : Rep C ρ G d v) {ks : List Key} {xs : List D} {vs : List V} (r : Reps C ρ G xs vs) (hl : ks.length = xs.length) (k : Key) :
    ∃ us, putK (ks.zip vs) k v = (dPut ks xs k d).1.zip us ∧ (dPut ks xs k d).1.length = (dPut ks xs k d).2.length ∧ Reps C ρ G (dPut ks xs k d).2 us := by
  have hv : ks.length = vs.length := by rw [hl, r.length]
  unfold putK dPut
  rw [zip_any hv]
  by_cases e : (ks.any fun q => decide (q = k)) = true
  · rw [if_pos e, if_pos e]
    have key : ∀ {ks : List Key} {xs : List D} {vs : List V}, Reps C ρ G xs vs → ks.length = xs.length → ∃ us, ((ks.zip vs).map fun kv => if kv.1 = k then (kv.1, v) else kv) = ks.zip us ∧ ks.length = (dPutX ks xs k d).length ∧ Reps C ρ G (dPutX ks xs k d) us := by
      intro ks
      induction ks with
      | nil =>
        intro xs vs r hl
        cases xs with
        | nil => exact ⟨[], rfl, rfl, Reps.nil⟩
        | cons _ _ => cases hl
      | cons q ks ih =>
        intro xs vs r hl
        cases xs with
        | nil => cases hl
        | cons x xs =>
          obtain ⟨w, us, rfl, h1, h2⟩ := r.inv
          obtain ⟨us2, e1, e2, e3⟩ := ih h2 (by simpa using hl)
          rw [dPutX]
          by_cases hq : q = k
          · exact ⟨v :: us2, by simp [hq, e1], by simp [e2], by rw [if_pos hq]; exact .cons rd e3⟩
          · exact ⟨w :: us2, by simp [hq, e1], by simp [e2], by rw [if_neg hq]; exact .cons h1 e3⟩
    exact key r hl
  · rw [if_neg e, if_neg e]
    refine ⟨vs ++ [v], ?_, by simp [hl], r.append (.cons rd .nil)⟩
    rw [List.zip_append hv]; rfl
end
section
variable {X : Cx} {cls : Nat → Addr} {W : WX} {a e : Expr} {ε1 ε2 : De} {pos pos' : Pos}
def sPutO (i : Nat) (k e : De) : Ds := fun Γ S => after (e Γ S) Γ fun d S1 => match Γ[i]? with
  | some (.own (.dct _ _)) => after (k Γ S1) Γ fun x S2 => match Γ[i]?, keyD x with
    | some (.own (.dct ks xs)), some q => if xs.length < sizeLine then .next (Γ.set i (.own (.dct (dPut ks xs q d).1 (dPut ks xs q d).2))) S2 else .stuck
    | _, _ => .stuck
  | _ => .stuck
theorem own_dct {C : Cn} {en : Ent} {Γ : List Sl} {S : List D} {ρ : List Addr} {G H : Hp} {σ : L2.St} (s : SI C en Γ S ρ G H σ) {i : Nat} {ks : List Key} {xs : List D} (h : Γ[i]? = some (.own (.dct ks xs))) : ∃ a vs, σ[i]? = some (some (V.ref a)) ∧ H a = some (.dK (ks.zip vs)) ∧ ks.length = xs.length ∧ Reps C ρ G xs vs ∧ G a = none ∧ a ∉ ρ := by
  obtain ⟨a, e, ⟨vs, h1, l, r⟩, g, n⟩ := s.mem.own i _ h
  exact ⟨a, vs, e, h1, l, r, g, n⟩
theorem ds_putO (i : Nat) (hu : X.A.units + 1 < cLine) (ho : PE X a (tVar i)) (hk : DE X cls W e ε1) {val : Expr} (hv : DE X cls W val ε2) (hs : swapsWith val (some (.Subscript a e pos')) pos.line X.env = pure false := by rfl) :
    DS X cls W (.Assign [.Subscript a e pos'] val pos) (sPutO i ε1 ε2) := PS.weak (ps_dput hu ho hk hv hs) fun D σ H ⟨en, Γ, S, ρ, G, s, p⟩ => ⟨Γ, S, ρ, G, s.mem, post_after s p fun d S1 ρ1 G1 H1 v m1 n1 s1 r1 p1 => by
  split at p1
  · rename_i ks0 xs0 hx
    obtain ⟨a, vs, e, h1, _, r, g, n⟩ := own_dct s1 hx
    refine ⟨_, e, Γ, S1, ρ1, G1, s1.mem, post_after s1 p1 fun d2 S2 ρ2 G2 H2 v2 m2 n2 s2 r2 p2 => ?_⟩
    split at p2
    · rename_i ks xs q hx2 hq
      obtain ⟨a', vs', e', h1', hl', r', g', n'⟩ := own_dct s2 hx2
      rw [e] at e'; cases e'
      split at p2
      · rename_i hz
        have ek := keyD_v hq r2
        subst ek
        obtain ⟨us, e1, e2, e3⟩ := put_zip (r1.mono n2.ext n2.pre) r' hl' q
        refine ⟨a, _, rfl, DPut.k h1' ?_, ?_⟩
        · rw [List.length_zip, hl', r'.length, Nat.min_self, ← r'.length]; exact hz
        · exact p2 _ _ _ _ (s2.poke hx2 e ⟨us, by rw [upd_same, e1], e2, e3⟩)
      · exact p2.elim
    · exact p2.elim
  · exact p1.elim⟩
end
/-! ### a[b], a a dict or not -/
section
variable {X : Cx} {cls : Nat → Addr} {W : WX} {a b : Expr} {δa δb : De} {pos : Pos}
theorem PE.or {e : Expr} {t t' : TE} (h : PE X e t) (h' : PE X e t') : PE X e (fun σ H Q => t σ H Q ∨ t' σ H Q) := ⟨fun pins s σ H Q I k => by
  rcases k with k | k
  · exact h.run pins s σ H Q I k
  · exact h'.run pins s σ H Q I k⟩
def dKey (d k : D) : Option D := match d, keyD k with
  | .dct ks xs, some q => dGet ks xs q
  | _, _ => none
def dIdxA (d k : D) : Option D := if isDct d = true then dKey d k else dIdx d k
theorem ok_key {C : Cn} : R2Ok C (RS C) (fun x y H Q => ∃ a v, x = .ref a ∧ DGet H a y (some v) ∧ Q v H) dKey := fun S ρ G H x y d dx dy Q m rx ry e k => by
  unfold dKey at e
  split at e
  · rename_i ks xs q hq
    obtain ⟨a, vs, rfl, h1, hl, r⟩ := rx
    obtain ⟨o, g, w⟩ := dget_rt h1 hl r q
    rw [e] at w
    obtain ⟨v, rfl, rv⟩ := w
    have ey : y = kV q := by
      cases dy <;> try cases hq
      · rw [rt_int] at ry; subst ry; rfl
      · rw [rt_str] at ry; subst ry; rfl
    subst ey
    exact ⟨a, v, rfl, g, k v _ _ _ m .refl rv⟩
  · cases e
theorem eOp_cases (Γ : List Sl) (S : List D) : eOp dIdxA δa δb Γ S = eOp dKey δa δb Γ S ∨ eOp dIdxA δa δb Γ S = eOp dIdx δa δb Γ S := by
  unfold eOp
  cases δa Γ S with
  | exc _ _ => exact .inl rfl
  | stuck => exact .inl rfl
  | ok x S1 =>
    simp only [Res.bind_ok]
    cases δb Γ S1 with
    | exc _ _ => exact .inl rfl
    | stuck => exact .inl rfl
    | ok y S2 =>
      simp only [Res.bind_ok]
      unfold dIdxA
      by_cases h : isDct (deref S2 x) = true
      · rw [if_pos h]; exact .inl rfl
      · rw [if_neg h]; exact .inr rfl
theorem de_subA (hu : X.A.units + 1 < cLine) (ha : DO X cls W a δa) (hb : DO X cls W b δb) (h0 : DE X cls W (.Subscript a b pos) (eOp dIdx δa δb)) (hs : NoSl b) : DE X cls W (.Subscript a b pos) (eOp dIdxA δa δb) :=
  PE.weak (PE.or (pe_dget hu ha hb hs) h0) fun σ H Q ⟨Γ, S, ρ, G, m, p⟩ => by
    rcases eOp_cases (δa := δa) (δb := δb) Γ S with e | e
    · rw [e] at p
      exact .inl (x_op (cls := cls) (W := W) (δa := δa) (δb := δb) back_RS ok_key ⟨Γ, S, ρ, G, m, p⟩)
    · rw [e] at p
      exact .inr ⟨Γ, S, ρ, G, m, p⟩
end
end DL

namespace DL
open PySem PySem.Spec PyProof.Rows L2
/-! ### sorted texts -/
def leS (a b : Str) : Bool := !ltCps b.cps.toList a.cps.toList
theorem leS_iff (a b : Str) : leS a b = true ↔ a.cps.toList ≤ b.cps.toList := by
  unfold leS
  rw [ltCps_eq, Bool.not_eq_true', decide_eq_false_iff_not, List.not_lt]
theorem leS_trans (a b c : Str) (h1 : leS a b = true) (h2 : leS b c = true) : leS a c = true := by
  rw [leS_iff] at *
  exact List.le_trans h1 h2
theorem leS_total (a b : Str) : (leS a b || leS b a) = true := by
  rw [Bool.or_eq_true, leS_iff, leS_iff]
  exact List.le_total _ _
theorem leS_anti (a b : Str) (h1 : leS a b = true) (h2 : leS b a = true) : a = b := by
  rw [leS_iff] at *
  have := List.le_antisymm h1 h2
  obtain ⟨⟨x⟩⟩ := a
  obtain ⟨⟨y⟩⟩ := b
  cases this; rfl
def srtS (l : List Str) : List Str := l.mergeSort leS
theorem rising_pair : ∀ (r : List Str) (x : Str), risingS x r = true → (x :: r).Pairwise fun a b => leS a b = true
  | [], x, _ => List.pairwise_singleton _ _
  | y :: r, x, h => by
    unfold risingS at h
    rw [Bool.and_eq_true] at h
    have hxy : leS x y = true := h.1
    have ih := rising_pair r y h.2
    refine List.Pairwise.cons (fun z hz => ?_) ih
    rcases List.mem_cons.mp hz with rfl | hz
    · exact hxy
    · exact leS_trans x y z hxy ((List.pairwise_cons.mp ih).1 z hz)
theorem sorted_pair (l : List Str) (h : sortedS l = true) : l.Pairwise fun a b => leS a b = true := by
  cases l with
  | nil => exact List.Pairwise.nil
  | cons x r => exact rising_pair r x h
theorem srt_uniq {ys xs : List Str} (hp : ys.Perm xs) (hs : sortedS ys = true) : ys = srtS xs :=
  List.Perm.eq_of_pairwise (le := fun a b => leS a b = true) (fun a b _ _ h1 h2 => leS_anti a b h1 h2) (sorted_pair ys hs) (List.pairwise_mergeSort leS_trans leS_total xs) (hp.trans (List.mergeSort_perm xs leS).symm)
def asStrs : List D → Option (List Str)
  | [] => some []
  | .str i :: r => (asStrs r).map (i :: ·)
  | _ :: _ => none
def keyStrs : List Key → Option (List Str)
  | [] => some []
  | .inr i :: r => (keyStrs r).map (i :: ·)
  | _ :: _ => none
theorem reps_strs2 {C : Cn} {ρ : List Addr} {G : Hp} : ∀ {ds : List D} {vs : List V} {l : List Str}, Reps C ρ G ds vs → asStrs ds = some l → vs = l.map V.str
  | [], _, _, h, e => by rw [asStrs] at e; cases e; exact h.inv0
  | x :: r, _, l, h, e => by
    obtain ⟨v, vs, rfl, h1, h2⟩ := h.inv
    cases x <;> rw [asStrs] at e <;> try cases e
    rename_i i
    cases q : asStrs r with
    | none => rw [q] at e; cases e
    | some l' =>
      rw [q] at e; cases e
      rw [reps_strs2 h2 q, rep_str.mp h1]; rfl
    all_goals exact nofun
theorem keyStrs_map : ∀ {ks : List Key} {l : List Str}, keyStrs ks = some l → ks = l.map Sum.inr
  | [], _, e => by rw [keyStrs] at e; cases e; rfl
  | x :: r, l, e => by
    cases x <;> rw [keyStrs] at e <;> try cases e
    · rename_i i
      cases q : keyStrs r with
      | none => rw [q] at e; cases e
      | some l' =>
        rw [q] at e; cases e
        rw [keyStrs_map q]; rfl
    all_goals exact nofun
theorem reps_mk {C : Cn} {ρ : List Addr} {G : Hp} : ∀ (l : List Str), Reps C ρ G (l.map D.str) (l.map V.str)
  | [] => Reps.nil
  | x :: r => .cons (rep_str.mpr rfl) (reps_mk r)
def dSorted : D → Option D
  | .lst xs => (asStrs xs).bind fun l => if l.length < 64 then some (.lst ((srtS l).map D.str)) else none
  | .dct ks _ => (keyStrs ks).bind fun l => if l.length < 64 then some (.lst ((srtS l).map D.str)) else none
  | _ => none
section
variable {C : Cn} {X : Cx} {cls : Nat → Addr} {W : WX} {a : Expr} {δa : De} {pos p : Pos}
def rSrt (K : PySem.W.Frag) : List V → Hp → VK → Prop := fun xs H Q => rSortedS K xs H Q ∨ ∃ (a : Addr) (kvs : List (Key × V)) (ks : List Str), xs = [.ref a] ∧ Rd H a (.dK kvs) ∧ kvs.map (·.1) = ks.map Sum.inr ∧ ks.length < 64 ∧
    ∀ ys p, ys.Perm ks → sortedS ys = true → H p = none → Q (.ref p) (upd H p (.lst (ys.map V.str)))
theorem rc_sorted : RC1 C (RF C) (rSrt C.K) dSorted := fun S ρ G H x d dx Q m rx e q => by
  cases dx <;> try cases e
  · rename_i xs
    obtain ⟨a, vs, rfl, h1, r1⟩ := rx
    simp only [dSorted] at e
    cases k : asStrs xs with
    | none => rw [k] at e; cases e
    | some l =>
      rw [k, Option.bind_some] at e
      split at e
      · rename_i hl
        cases e
        have z := reps_strs2 r1 k
        subst z
        refine .inl ⟨a, l, rfl, SqL.of h1, hl, fun ys p hp hs hn => ?_⟩
        obtain rfl := srt_uniq hp hs
        obtain ⟨m2, n2, r⟩ := x_new m (reps_mk (C := C) (ρ := ρ) (G := G) (srtS l)) hn
        exact q _ _ _ _ m2 n2 r
      · cases e
  · rename_i ks xs
    obtain ⟨a, vs, rfl, h1, hl0, r1⟩ := rx
    simp only [dSorted] at e
    cases k : keyStrs ks with
    | none => rw [k] at e; cases e
    | some l =>
      rw [k, Option.bind_some] at e
      split at e
      · rename_i hl
        cases e
        refine .inr ⟨a, _, l, rfl, h1, ?_, hl, fun ys p hp hs hn => ?_⟩
        · rw [List.map_fst_zip (by rw [hl0, r1.length]; exact Nat.le_refl _)]; exact keyStrs_map k
        · obtain rfl := srt_uniq hp hs
          obtain ⟨m2, n2, r⟩ := x_new m (reps_mk (C := C) (ρ := ρ) (G := G) (srtS l)) hn
          exact q _ _ _ _ m2 n2 r
      · cases e
theorem call_srt (hc : X.calm = true) : CallR X (.builtin "sorted") (rSrt X.K) := fun pins s σ H xs us Q I r h => by
  rcases h with h | h
  · exact cr_sortedS pins s σ H xs us Q I r h
  · exact call_sortedD hc pins s σ H xs us Q I r h
theorem df_sorted (hg : Gl X "sorted") (hm : X.mg "sorted" = none) (hc : X.calm = true) (ha : DO X cls W a δa) (he : starEach [a] X.env = (false, eval a X.env) :: starEach [] X.env := by rfl) (hpl : (backTo pos (starEach [] X.env)).any (·.1) = false := by rfl) : DF X cls W (.Call (.Name "sorted" p) [a] [] pos) (eUn dSorted δa) :=
  x_c1 back_RF (pe_callB (call_srt hc) hg hm (by decide +kernel) (da1 ha he) (by decide) (by decide) he hpl) rc_sorted
end
end DL

namespace DL
open PySem PySem.Spec PyProof.Rows L2 LiI
/-! ### list(d.items()) -/
section
variable {C : Cn} {S : List D} {ρ : List Addr} {G G' H H' : Hp}
theorem mem_more (m : MemS C S ρ G H) (hG : Sub G G') (hH : ∀ b o, H b = some o → H' b = some o) (s : SubH C G' H') (nw : ∀ a o, G' a = some o → G a = some o ∨ H a = none) : MemS C S ρ G' H' ∧ Nx ρ G H ρ G' H' := by
  have live : ∀ a, H' a = none → H a = none := fun a h => by
    cases q : H a with
    | none => rfl
    | some o => rw [hH a o q] at h; cases h
  refine ⟨⟨s, fun i d h => by simp at h, fun i d h => by simp at h, fun i j d d' a h => by simp at h, fun i d h => ?_, fun a ha => ?_, m.len, m.nd, rfl, fun i x h => by simp at h⟩, ⟨List.prefix_refl _, hG, nw, fun a o _ h _ => hH a o h, live, fun a h => .inl h⟩⟩
  · obtain ⟨a, e, r⟩ := m.sto i d h
    exact ⟨a, e, r.mono hG (List.prefix_refl _) fun o q => hH a o q⟩
  · cases q : G' a with
    | none => rfl
    | some o =>
      rcases nw a o q with z | z
      · rw [m.stG a ha] at z; cases z
      · obtain ⟨i, hi⟩ := List.mem_iff_getElem?.mp ha
        have hl : i < S.length := by rw [← m.len]; exact (List.getElem?_eq_some_iff.mp hi).1
        obtain ⟨b, e, r⟩ := m.sto i S[i] (List.getElem?_eq_getElem hl)
        rw [hi] at e; cases e
        obtain ⟨o2, h2⟩ := r.some
        rw [h2] at z; cases z
def keyK : Key → D
  | .inl i => .int i
  | .inr x => .str x
theorem keyK_rep (k : Key) : Rep C ρ G (keyK k) (kV k) := by
  cases k with
  | inl i => exact rep_int.mpr rfl
  | inr x => exact rep_str.mpr rfl
def itemsD : List Key → List D → List D
  | k :: ks, x :: xs => .tup [keyK k, x] :: itemsD ks xs
  | _, _ => []
theorem items_reps {F : Hp} : ∀ {ks : List Key} {xs : List D} {vs : List V} {ts : List Addr}, Reps C ρ F xs vs → ks.length = xs.length → Paired (fun (t : Addr) (q : Key × V) => F t = some (.tup [kV q.1, q.2])) ts (ks.zip vs) → Reps C ρ F (itemsD ks xs) (ts.map V.ref)
  | [], [], vs, ts, r, _, h => by
    cases h
    unfold itemsD; exact Reps.nil
  | [], x :: xs, _, _, _, hl, _ => by cases hl
  | k :: ks, [], _, _, _, hl, _ => by cases hl
  | k :: ks, x :: xs, vs, ts, r, hl, h => by
    obtain ⟨v, us, rfl, h1, h2⟩ := r.inv
    cases h with
    | cons a b =>
      unfold itemsD
      exact .cons (rep_tup.mpr ⟨_, _, rfl, .inl (.inl a), .cons (keyK_rep k) (.cons h1 .nil)⟩) (items_reps h2 (by simpa using hl) b)
end
end DL

namespace DL
open PySem PySem.W PySem.Calls PyProof.Rows PySem.HandSPX L2
/-! ### own error classes whose __init__ says super().__init__(f"..") and self.x = x -/
def clsSt (st : Stmt) (k : Nat) : Stmt := match st with
  | .ClassDef _ _ _ body _ _ _ _ _ _ _ => body.getD k (.Pass ⟨0, 0, 0, 0⟩)
  | _ => .Pass ⟨0, 0, 0, 0⟩
/-- the value's text in an f-string -/
def ShowV (prog : Program) (w : World) (A : Around) (h0 : Heap) (v : Value) : Prop := ∀ (E : Value → Shared → Prop) (s : Shared) (Q : Value → Shared → Prop), (∀ b o, h0.get? b = some o → s.heap.get? b = some o) →
  (∀ h' u tk x, (∀ b o, s.heap.get? b = some o → h'.get? b = some o) → x.length ≤ 16000000 → Q (.str x u) { s with heap := h', toks := tk }) → wpAny (model prog w) A (formatField v Str.empty) Q E s
theorem showV_str {prog : Program} {w : World} {A : Around} {h0 : Heap} {x : Str} {t : Tok} (h : x.length ≤ 16000000) : ShowV prog w A h0 (.str x t) := fun E s Q k q =>
  wpAny_formatField_str (q s.heap t s.toks x (fun _ _ e => e) h) (q s.heap s.toks (s.toks + 1) x (fun _ _ e => e) h) (Nat.le_trans h (by decide))
theorem showV_int {prog : Program} {w : World} {A : Around} {h0 : Heap} {i : Int} {t : Tok} (h : i.natAbs.log2 < 1920) : ShowV prog w A h0 (.int i t) := fun E s Q k q =>
  wpAny_formatField_int h (q s.heap _ _ (toString i) (fun _ _ e => e) (by
    have e := int_text_length_le (k := 1920) (by decide) h
    show (Str.ofString (toString i)).length ≤ _
    rw [PySem.ofString_length]; omega))
theorem showV_data {prog : Program} {w : World} {A : Around} {h0 : Heap} {a : Addr} {d : PyData} {as : List Addr} (r : Reads h0 (.ref a) d as) (hs : d.showable = true) (hd : d.hasDict = false) (hg : A.guards = some []) (hu : A.units + (d.depth + 2) < cLine) (hl : d.shown.length ≤ 16000000) : ShowV prog w A h0 (.ref a) := fun E s Q k q =>
  formatField_of_reads r hs (fun z => by rw [hd] at z; cases z) hg hu k (fun h' u tk hk => q h' u tk _ hk hl) (Nat.le_trans hl (by decide))
inductive FParts (par : Str) : List Expr → Nat → Prop
  | nil : FParts par [] 0
  | txt {x : Str} {k : Nat} {pos : Pos} {es : List Expr} {n : Nat} (h : x.length ≤ 100) (r : FParts par es n) : FParts par (.Constant (.str x) k pos :: es) (n + 100)
  | val {q pos : Pos} {es : List Expr} {n : Nat} (r : FParts par es n) : FParts par (.FormattedValue (.Name par q) (-1) none pos :: es) (n + 16000000)
/-- the text of such an __init__ -/
structure ErrSt (st : Stmt) (par fld : Str) : Prop where
  body : ∃ (p0 p1 ap : Pos) (e1 e2 : Expr) (er : List Expr) (jp cp sp q1 q2 q3 q4 : Pos) (n : Nat), FParts par (e1 :: e2 :: er) n ∧ n ≤ 16000300 ∧ (ap.endLine == cp.line) = true ∧
    defBody st = [.Expr (.Call (.Attribute (.Call (.Name "super" p0) [] [] p1) "__init__" ap) [.JoinedStr (e1 :: e2 :: er) jp] [] cp) sp, .Assign [.Attribute (.Name "self" q1) fld q2] (.Name par q3) q4]
  scS : (defScope st).names.lookup ("self" : Str) = some .local
  scP : (defScope st).names.lookup par = some .local
  scX : (defScope st).names.lookup ("super" : Str) = some .globalImplicit
  scC : (defScope st).names.lookup ("__class__" : Str) = some .free
  ncell : ∀ x ∈ (defScope st).names, x.2 ≠ .cell
  co : (defScope st).isCoroutine = false
  gen : (defScope st).isGenerator = false
  kind : (defScope st).kind = .function
  hd : ∃ ar, ((defArgs st).posonlyargs ++ (defArgs st).args).head? = some ar ∧ ar.arg = "self"
  pd : (par == ("__debug__" : Str)) = false
  ps : par ≠ "self"
/-- what the written part says of the class at C, whose __init__ stands in the class at D -/
structure ErrTxt (prog : Program) (K : Frag) (qual : Str) (st : Stmt) (C D fI cc cda : Addr) (par fld : Str) : Prop where
  tx : ErrSt st par fld
  cls : ∃ nm q N bs bm sn sub ab col dd k0 k1 k2 k3 k5, K.lookup C = some (excClassObj nm q C N bs bm true sn sub ab col dd k0 k1 k2 k3 k5 "ValueError.__new__") ∧ refsVE bm = true
  sa : findIn K (.ref C) "__setattr__" = some (some (.builtin "object.__setattr__"))
  noN : findIn K (.ref C) fld = some none
  iC : findIn K (.ref C) "__init__" = some (some (.ref fI))
  tC : typeIn K (.ref fI) = some (.type "function")
  kC : keepIn K (.ref C) = true
  exC : subIn K (.ref C) (.type "BaseException") = some true
  veC : subIn K (.ref C) (.type "ValueError") = some true
  tyC : typeIn K (.ref C) = some (.type "type")
  sup : ks_superIn K C D "__init__" = some (some (.builtin "ValueError.__init__"))
  mCD : mroIn K C (.ref D) = some true
  clD : ∃ cd, clsIn K D = some cd
  cell : ∃ cl cld csl, K.lookup cc = some ⟨cl, cld, .cell (some (.ref D)), csl⟩
  code : ∃ ccl cdd vs ccs file tf, K.lookup cda = some ⟨ccl, cdd, .fields vs, ccs⟩ ∧ vs[2]? = some (.str file tf) ∧ ((prog.main.file : Str) == file) = true
  thp : nsIn K cStatics "thirdparty.any" = some none
  top : (prog.main.scope.names.lookup ("super" : Str)).isSome = false
  fn : ∃ (oc : Value) (od : Option Addr) (kV doc pm : Value) (an : Option Addr) (ct : Value) (osl : Array (Option Value)),
    K.lookup fI = some ⟨oc, od, .func (ksFn "__init__" qual (defArgs st) (defBody st) (defScope st) .none kV doc pm an (.ref cda) ct cc), osl⟩ ∧ codeIn K (.ref cda) qual = true ∧
    ∀ (s : Shared) (u v : Value), BindsTo s (ksFn "__init__" qual (defArgs st) (defBody st) (defScope st) .none kV doc pm an (.ref cda) ct cc) ⟨[u, v], []⟩ [("self", u), (par, v)]
structure InitEnd (fld : Str) (h h' : Heap) (x C dx t1 : Addr) (v : Value) : Prop where
  keep : ∀ b o, b ≠ x → h.get? b = some o → h'.get? b = some o
  obj : h'.get? x = some { cls := .ref C, dict := some dx, data := .fields #[.ref t1, .none, .none, .none, .bool false, .none] }
  dbig : h.objs.size ≤ dx
  dne : dx ≠ x
  ns : h'.Ns1 dx (fun y => if y = fld then some v else none)
section
variable {prog : Program} {w : World} {A : Around} {E : Value → Shared → Prop} {R : Result → Shared → Prop} {s : Shared} {K : Frag} {mg mb : Str → Option Value}
theorem ldK {M : Model} {qual : Str} {scope : Scope} {L a cc : Addr} {cd : Value} {m : Str → Option Value} {x : Str} {pos : Pos} {v : Value} {Q : Value → Shared → Prop} (hn : s.heap.Ns L m) (hv : m x = some v) (h : Q v s)
    (hk : scope.kind = .function) (hl : scope.names.lookup x = some .local) (hd : (x == ("__debug__" : Str)) = false) :
    wpAny M A (eval (.Name x pos) (ksEnv qual scope L a cd cc)) Q E s := wpAny_Name (wpAny_loadName_local hk hl hn hv h) hd
theorem fparts_join {qual : Str} {scope : Scope} {L a cc : Addr} {cd : Value} {par : Str} {v : Value} {h0 : Heap} {m : Str → Option Value} (hk : scope.kind = .function) (hl : scope.names.lookup par = some .local) (hd : (par == ("__debug__" : Str)) = false)
    (sv : ShowV prog w A h0 v) (hm : m par = some v) : ∀ {es : List Expr} {n : Nat}, FParts par es n → ∀ (acc : Str) (s : Shared) (R : Str → Shared → Prop), s.heap.Ns L m → (∀ b o, h0.get? b = some o → s.heap.get? b = some o) → acc.length + n ≤ 16000300 →
    (∀ out h' tk, (∀ b o, s.heap.get? b = some o → h'.get? b = some o) → out.length ≤ 16000300 → R out { s with heap := h', toks := tk }) → Joins (model prog w) A E (evalEach es (ksEnv qual scope L a cd cc)) acc R s := by
  intro es n f
  induction f with
  | nil =>
    intro acc s R hn k hl2 q
    have e0 : evalEach [] (ksEnv qual scope L a cd cc) = [] := by first | rfl | simp [evalEach]
    rw [e0]
    exact q acc s.heap s.toks (fun _ _ e => e) (by omega)
  | @txt x kk pos es n hx r ih =>
    intro acc s R hn k hl2 q
    have e0 : evalEach (.Constant (.str x) kk pos :: es) (ksEnv qual scope L a cd cc) = eval (.Constant (.str x) kk pos) (ksEnv qual scope L a cd cc) :: evalEach es (ksEnv qual scope L a cd cc) := by first | rfl | simp [evalEach]
    rw [e0]
    have al : (acc ++ x).length = acc.length + x.length := strLen_append _ _
    refine wpAny_Constant_str ⟨x, s.toks, rfl, by rw [al]; exact Nat.le_trans (show acc.length + x.length ≤ 16000300 by omega) (by decide), ih (acc ++ x) { s with toks := s.toks + 1 } R hn k (by rw [al]; omega) fun out h' tk hk ho => q out h' tk hk ho⟩
  | @val qp pos es n r ih =>
    intro acc s R hn k hl2 q
    have e0 : evalEach (.FormattedValue (.Name par qp) (-1) none pos :: es) (ksEnv qual scope L a cd cc) = eval (.FormattedValue (.Name par qp) (-1) none pos) (ksEnv qual scope L a cd cc) :: evalEach es (ksEnv qual scope L a cd cc) := by first | rfl | simp [evalEach]
    rw [e0]
    refine wpAny_FormattedValue_plain (ldK hn hm ?_ hk hl hd)
    refine sv E s _ k fun h' u tk x hk hx => ?_
    have al : (acc ++ x).length = acc.length + x.length := strLen_append _ _
    refine ⟨x, u, rfl, by rw [al]; exact Nat.le_trans (show acc.length + x.length ≤ 16000300 by omega) (by decide), ih (acc ++ x) { s with heap := h', toks := tk } R (hn.keeps hk) (fun b o e => hk b o (k b o e)) (by rw [al]; omega) fun out h2 tk2 hk2 ho => q out h2 tk2 (fun b o e => hk2 b o (hk b o e)) ho⟩
theorem super_at {c : Code} {o : Expr} {name : Str} {apos pos : Pos} {args : List Expr} {env : Env} {Q : Value → Shared → Prop} (hline : (apos.endLine == pos.line) = true)
    (hform : methodCallForm (args.length + ([] : List Keyword).length) (backTo pos (starEach args env)) (backToKw pos (keywordEach [] env)) = true)
    (h : PySem.wpAt (model prog w) A c (attributeBase o name env (eval o env)) (fun ov s₁ => ∀ pl, wpAny (model prog w) A (getMethod ov name pl) (fun fx s₂ => wpAny (model prog w) A (callWith pos fx.1 fx.2 (backTo pos (starEach args env)) []) Q E s₂) E s₁) E s) :
    PySem.wpAt (model prog w) A c (eval (.Call (.Attribute o name apos) args [] pos) env) Q E s := by
  rw [arm_eval_Call]
  refine PySem.wpAt_bind (ks_wpAt_mono h (fun ov s₁ h₁ => wpAt_of_wpAny (wpAny_bind (wpAny_standAt ?_))) fun _ _ x => x)
  have hpos : methodCallPos true o env apos pos = pure pos := by unfold methodCallPos; simp [hline]
  unfold methodCall
  rw [hform]
  refine wpAny_bind (wpAny_holding (wpAny_mono (h₁ _) (fun fx s₂ h₂ => ?_) fun _ _ x => x))
  exact wpAny_bind (wpAny_of_eq hpos h₂)
theorem err_init {C D fI cc cda : Addr} {par fld qual : Str} {st : Stmt} (T : ErrTxt prog K qual st C D fI cc cda par fld) {x t0 : Addr} {v : Value} (X : K.In s.heap) (G : s.heap.Ns mainGlobals mg) (hsup : mg "super" = none) (B : s.heap.Ns builtinsNs mb) (hb : mb "super" = some (.type "super"))
    (hlim : s.heap.NoLimit) (hx : s.heap.get? x = some (HandSPX.excO C t0)) (hnx : K.lookup x = none) (hroom : A.depth < recursionLimit) (sv : ∀ L, ShowV prog w (A.deeper (ksEnv qual (defScope st) L fI (.ref cda) cc)) s.heap v)
    (hq : ∀ h' tk dx t1, InitEnd fld s.heap h' x C dx t1 v → R (.ok (.ret .none)) { s with heap := h', toks := tk }) :
    codeAny (model prog w) A (.call (.ref fI) ⟨[.ref x, v], []⟩) R s := by
  obtain ⟨oc, od, kV, doc, pm, an, ct, osl, ho, hcd, hbd⟩ := T.fn
  obtain ⟨nm, q, N, bs, bm, sn, sub, ab, col, dd, k0, k1, k2, k3, k5, hC, hbm⟩ := T.cls
  obtain ⟨p0, p1, ap, e1, e2, er, jp, cp, sp, q1, q2, q3, q4, n, fp, hn16, hline, hbody⟩ := T.tx.body
  have hint : ∀ L : Addr, interactive (ksEnv qual (defScope st) L fI (.ref cda) cc) = false := fun L => by
    unfold interactive
    rw [show (ksEnv qual (defScope st) L fI (.ref cda) cc).scope.kind = .function from T.tx.kind]
    rfl
  obtain ⟨ar, har, hself⟩ := T.tx.hd
  obtain ⟨cdD, hD⟩ := T.clD
  obtain ⟨cl, cld, csl, hcell⟩ := T.cell
  obtain ⟨ccl, cdd, vs, ccs, file, tf, hcode, hvs, hfile⟩ := T.code
  have hcl : clsIn K C = some { name := nm, bases := bs, mro := .ref C :: bm, ns := N, qualname := q, hasDict := true, slotNames := sn, subclasses := sub, abstract := ab, collection := col, hasDel := false } := by unfold clsIn; rw [hC] <;> rfl
  refine ks_codeAny_call_defAt (fd := ksFn "__init__" qual (defArgs st) (defBody st) (defScope st) .none kV doc pm an (.ref cda) ct cc) (body := defBody st) (binds := [("self", .ref x), (par, v)]) hroom (X _ _ ho) rfl hlim (codeRec_of X hcd) rfl (hbd _ _ _) T.tx.ncell ?_ (fun h1 hn k => ?_) T.tx.co T.tx.gen T.tx.kind
  · intro y hy
    rcases List.mem_cons.mp hy with rfl | hy
    · exact T.tx.scS
    · rcases List.mem_cons.mp hy with rfl | hy
      · exact T.tx.scP
      · cases hy
  have m1 : (fun y => ([(("self" : Str), Value.ref x), (par, v)] : List (Str × Value)).reverse.lookup y) "self" = some (.ref x) := by
    have z : (("self" : Str) == par) = false := by simpa using fun e : ("self" : Str) = par => T.tx.ps e.symm
    simp [List.lookup, z]
  have m2 : (fun y => ([(("self" : Str), Value.ref x), (par, v)] : List (Str × Value)).reverse.lookup y) par = some v := by
    simp [List.lookup]
  have X1 : K.In h1 := X.keeps k
  have hx1 := k _ _ hx
  have hne : x ≠ C := fun z => by
    have hC1 := X _ _ hC
    rw [← z, hx] at hC1
    cases hC1
  rw [hbody]
  generalize hL : s.heap.objs.size = L at *
  show PySem.wpAt _ (A.deeper (ksEnv qual (defScope st) L fI (.ref cda) cc)) _ (execs _ (ksEnv qual (defScope st) L fI (.ref cda) cc)) _ _ _
  refine ks_wpAt_execs_cons (ks_wpAt_Expr_any (super_at hline (by rfl) ?_) (hint L))
  obtain ⟨hh, g, dr, tk, os⟩ := s
  dsimp only at *
  obtain ⟨oD, hD1, hD2⟩ : ∃ oD, h1.get? D = some oD ∧ oD.data = .cls cdD := by
    unfold clsIn at hD
    split at hD
    · rename_i c d cd' sl ho
      cases hD
      exact ⟨_, X1 _ _ ho, rfl⟩
    · cases hD
  refine ks_wpAt_super_base (env := ksEnv qual (defScope st) L fI (.ref cda) cc) T.tx.scX T.tx.scC (by decide) rfl (X1 _ _ ho) rfl har rfl (X1 _ _ hcode) rfl hvs hfile T.top ?_
  refine ks_loadName_global T.tx.kind T.tx.scX (loadGlobal_builtin (env := ksEnv qual (defScope st) L fI (.ref cda) cc) (G.keeps k) hsup (B.keeps k) hb ⟨rfl, ?_⟩)
  refine wpAny_loadName_free T.tx.kind T.tx.scC rfl ⟨_, X1 _ _ hcell, rfl⟩ ?_
  rw [hself]
  refine wpAny_loadName_local T.tx.kind T.tx.scS hn m1 ?_
  refine ks_wpAny_isType_cls hD1 hD2 ⟨rfl, ?_⟩
  refine ks_wpAny_call_super hD1 hD2 hx1 rfl (fun c e => by cases e) (looks_mroIn X1 T.mCD) (fun h2 e2' kk2 => ?_)
  have k2 : ∀ b o, hh.get? b = some o → h2.get? b = some o := fun b o e => kk2 b o (k b o e)
  have X2 : K.In h2 := X.keeps k2
  have I2 : InstAt h2 x (HandSPX.excO C t0) C none := ⟨k2 _ _ hx, rfl, rfl, trivial⟩
  have hI : Looks (model prog w) h2 (isInstance (.ref x) (.type "ValueError")) true := I2.type.andThen (looks_subIn X2 T.veC)
  have hm : ks_superIn K C D "__init__" = some (some (.builtin "ValueError.__init__")) := T.sup
  unfold ks_superIn at hm
  rw [hcl] at hm
  intro pl
  refine kxs_getMethod kxs_ValueError e2' (looks_opaque X2 T.thp) (l₀ := .ref C :: bm) (fun A Q E s k q => wpAny_bind ((looks_clsIn X2 hcl) A _ E s k (wpAny_pure q))) rfl X2 hm hI hne (by decide) ?_
  dsimp only
  generalize hu : h2.objs.size = u
  have ku : ∀ b o, h2.get? b = some o → (h2.push (kxs_mw "ValueError.__init__" x)).get? b = some o := fun b o e => Heap.get?_push_of_some _ e
  have hu3 : (h2.push (kxs_mw "ValueError.__init__" x)).get? u = some (kxs_mw "ValueError.__init__" x) := by rw [← hu]; exact Heap.get?_push_at rfl rfl
  generalize h2.push (kxs_mw "ValueError.__init__" x) = h3 at ku hu3
  have k3 : ∀ b o, hh.get? b = some o → h3.get? b = some o := fun b o e => ku b o (k2 b o e)
  have hn3 : h3.Ns L (fun y => ([(("self" : Str), Value.ref x), (par, v)] : List (Str × Value)).reverse.lookup y) := hn.keeps fun b o e => ku b o (kk2 b o e)
  refine kxs_callWith (i := "ValueError.__init__") (x := x) (by rfl) ?_
  refine evalArgs_plain ?_
  refine spliced_cons ?_
  refine wpAny_JoinedStr (pos := jp) (fparts_join T.tx.kind T.tx.scP T.tx.pd (sv L) m2 fp Str.empty _ _ hn3 k3 (by show 0 + n ≤ _; omega) fun out h4 tk4 hk4 hout => ⟨Nat.le_trans hout (by decide), ?_⟩)
  refine spliced_nil ⟨hk4 _ _ hu3, ?_⟩
  have k4 : ∀ b o, hh.get? b = some o → h4.get? b = some o := fun b o e => hk4 b o (k3 b o e)
  have X4 : K.In h4 := X.keeps k4
  have hC4 := X4 _ _ hC
  have hx4 := k4 _ _ hx
  have hu4 := hk4 _ _ hu3
  -- the call
  refine wpAny_call (codeAny_of_tree ?_)
  show wpAny _ (A.deeper (ksEnv qual (defScope st) L fI (.ref cda) cc)).in1 (callAny (.ref u) ⟨[] ++ [Value.str out tk4], []⟩) _ _ _
  simp only [callAny, List.nil_append]
  refine wpAny_bind (wpAny_load hu4 ?_)
  simp only [kxs_mw, show (Value.type "method-wrapper" == Value.type "method" || Value.type "method-wrapper" == Value.type "builtin_function_or_method" || Value.type "method-wrapper" == Value.type "method-wrapper") = true by decide, if_true]
  refine KFB.if_so (by decide) ?_
  refine wpAny_bind (check_bound_init F.excBase_ValueError.toExcCallFacts hC4 hx4 rfl ?_)
  refine wpAny_bind (wpAny_pure (wpAny_pure ?_))
  refine ⟨plainId_quiet F.excBase_ValueError.init.plain _, codeAny_builtin F.excBase_ValueError.initEntry ?_⟩
  refine exc_init_tree (cls := .ref C) (t0 := t0) (dv := none) (c2 := .none) (c3 := .none) (b4 := .bool false) hx4 (by show 1 ≤ sizeLine; decide) fun h5 k5' hx5 _ => ?_
  have k5 : ∀ b o, b ≠ x → hh.get? b = some o → h5.get? b = some o := fun b o hb e => k5' b o hb (k4 b o e)
  have hxL : L ≠ x := by rw [← hL]; exact Nat.ne_of_gt (Heap.lt_size hx)
  have hn5 : h5.Ns L (fun y => ([(("self" : Str), Value.ref x), (par, v)] : List (Str × Value)).reverse.lookup y) := by
    obtain ⟨o, es, ep, hoL, r⟩ := hn3
    exact ⟨o, es, ep, k5' _ _ hxL (hk4 _ _ hoL), r⟩
  have X5 : K.In h5 := fun a o e => k5' a o (fun z => by rw [z, hnx] at e; cases e) (X4 a o e)
  dsimp only
  refine ks_wpAt_execs_cons (wpAt_of_wpAny (plainObj_wpAny_Assign_Attribute ?_))
  refine ldK hn5 m2 (ldK hn5 m1 ?_ T.tx.kind T.tx.scS (by decide)) T.tx.kind T.tx.scP T.tx.pd
  refine set_plain X5 (ox := { cls := .ref C, dict := none, data := .fields #[.ref h4.objs.size, .none, .none, .none, .bool false, .none] }) (od := none) ⟨hx5, rfl, rfl, trivial⟩ T.sa ?_
  refine exc_osa X5 hx5 hcl (show refsVE (.ref C :: bm) = true from hbm) rfl T.noN (fun h6 tk6 dx k6 dn dne hx6 hn6 => ?_)
  refine wpAt_of_wpAny (wpAny_execs_nil (hq h6 tk6 dx h4.objs.size ⟨fun b o hb e => k6 b o hb (k5 b o hb e), hx6, ?_, dne, hn6⟩))
  have z : hh.objs.size < h5.objs.size := by rw [hL]; exact hn5.lt
  exact Nat.le_of_lt (Nat.lt_of_lt_of_le z dn)
end
end DL

namespace DL
open PySem PySem.W PySem.Calls PyProof.Rows PySem.HandSPX L2
theorem ShowV.mono {prog : Program} {w : World} {A : Around} {h0 h1 : Heap} {v : Value} (h : ShowV prog w A h0 v) (k : ∀ b o, h0.get? b = some o → h1.get? b = some o) : ShowV prog w A h1 v := fun E s Q k2 q => h E s Q (fun b o e => k2 b o (k b o e)) q
structure OwnMade (fld : Str) (h h' : Heap) (e C d : Addr) (v : Value) : Prop where
  keep : ∀ b o, h.get? b = some o → h'.get? b = some o
  new : h.objs.size ≤ e
  obj : ∃ oe vs, h'.get? e = some oe ∧ oe.cls = .ref C ∧ oe.dict = some d ∧ oe.data = .fields vs ∧ vs[1]? = some .none
  dbig : h.objs.size ≤ d
  dne : d ≠ e
  ns : h'.Ns1 d (fun y => if y = fld then some v else none)
theorem one_line (v : Value) : [v].length ≤ sizeLine := by
  rw [sizeLine_eq]; exact (by decide : 1 ≤ 16777216)
section
variable {prog : Program} {w : World} {A : Around} {E : Value → Shared → Prop} {R : Result → Shared → Prop} {s : Shared} {K : Frag} {mg mb : Str → Option Value}
theorem err_made {C D fI cc cda : Addr} {par fld qual : Str} {st : Stmt} (T : ErrTxt prog K qual st C D fI cc cda par fld) {v : Value} (X : K.In s.heap) (G : s.heap.Ns mainGlobals mg) (hsup : mg "super" = none) (B : s.heap.Ns builtinsNs mb) (hb : mb "super" = some (.type "super"))
    (hlim : s.heap.NoLimit) (hroom : A.depth + 1 < recursionLimit) (sv : ∀ L, ShowV prog w ((A.under (.builtin "type.__call__" ⟨.ref C :: [v], []⟩)).deeper (ksEnv qual (defScope st) L fI (.ref cda) cc)) s.heap v)
    (hq : ∀ h' tk e d, OwnMade fld s.heap h' e C d v → R (.ok (.ret (.ref e))) { s with heap := h', toks := tk }) :
    codeAny (model prog w) A (.call (.ref C) ⟨[v], []⟩) R s := by
  obtain ⟨nm, q, N, bs, bm, sn, sub, ab, col, dd, k0, k1, k2, k3, k5, hC, hbm⟩ := T.cls
  obtain ⟨hp, g, dr, tk, os⟩ := s
  have k : ∀ b o, hp.get? b = some o → ((hp.push (kdv_tup [v])).push (HandSPX.excO C hp.objs.size)).get? b = some o := fun b o e => Heap.get?_push_of_some _ (Heap.get?_push_of_some _ e)
  have hget : ((hp.push (kdv_tup [v])).push (HandSPX.excO C hp.objs.size)).get? (hp.objs.size + 1) = some (HandSPX.excO C hp.objs.size) := by heap_get
  have hnx : K.lookup (hp.objs.size + 1) = none := by
    cases e : K.lookup (hp.objs.size + 1) with
    | none => rfl
    | some o =>
      have z : hp.get? (hp.objs.size + 1) = some o := X _ _ e
      exact absurd (Nat.lt_of_succ_lt (Heap.lt_size z)) (Nat.lt_irrefl _)
  refine call_own F.excBase_ValueError (fun X => refsVE_contains X bm hbm) (X _ _ hC) (looks_findIn X T.iC) (fun self => bind_fn X self T.tC) (one_line v) ?_
  refine err_init (s := ⟨(hp.push (kdv_tup [v])).push (HandSPX.excO C hp.objs.size), g, dr, tk, os⟩) T (X.keeps k) (G.keeps k) hsup (B.keeps k) hb (hlim.keeps k) hget hnx ?_ (fun L => (sv L).mono k) fun h' tk' dx t1 ⟨k', hx, dn, dne, hns⟩ => ?_
  · have z : (A.under (.builtin "type.__call__" ⟨.ref C :: [v], []⟩)).depth = A.depth + 1 := make_depth
    rw [z]; exact hroom
  · have old : ∀ b o, hp.get? b = some o → h'.get? b = some o := fun b o e => k' b o (Nat.ne_of_lt (Nat.lt_succ_of_lt (Heap.lt_size e))) (k b o e)
    have z : hp.objs.size + 1 + 1 ≤ dx := by
      first
        | (simpa only [Heap.size_push] using dn)
        | exact dn
        | (have q := dn; rw [Heap.size_push, Heap.size_push] at q; exact q)
    exact ⟨rfl, hq h' tk' (hp.objs.size + 1) dx ⟨old, Nat.le_succ _, ⟨_, _, hx, rfl, rfl, rfl, rfl⟩, Nat.le_trans (Nat.le_trans (Nat.le_succ _) (Nat.le_succ _)) z, dne, hns⟩⟩
end
theorem make_guards {A : Around} {C : Addr} {us : List Value} {kw : List (Str × Value)} : (A.under (.builtin "type.__call__" ⟨.ref C :: us, kw⟩)).guards = A.guards := by
  first | rfl | simp [Around.under, Code.weight, Code.isCreation, Code.isGuard, Code.isCaller, Code.frames, Code.isFrame, guardIds]
theorem relO_fld {fld : Str} {v : V} {v' : Value} (r : RelV v v') (f : Str) : RelO (List.lookup f [(fld, v)]) (if f = fld then some v' else none) := by
  by_cases hw : f = fld
  · subst hw
    rw [if_pos rfl]
    have q : List.lookup f [(f, v)] = some v := by simp [List.lookup]
    rw [q]; exact r
  · rw [if_neg hw]
    have qw : (f == fld) = false := by simpa using hw
    have q2 : List.lookup f [(fld, v)] = none := by simp [List.lookup, qw]
    rw [q2]; trivial
/-- what an error's text can show -/
def Shows (K : Frag) (H : Hp) (v : V) : Prop := (∃ x, v = .str x ∧ x.length ≤ 16000000) ∨ (∃ i, v = .int i ∧ i.natAbs.log2 < 1920) ∨
  ∃ a q, v = .ref a ∧ Dp K H (.ref a) q ∧ q.showable = true ∧ q.hasDict = false ∧ q.depth ≤ 60 ∧ q.shown.length ≤ 16000000
def tMkErr (K : Frag) (C : Addr) (fld : Str) (ta : TA) : L2.St → Hp → XK → Prop := fun σ H Q => ta σ H fun vs H1 => ∃ v, vs = [v] ∧ Shows K H1 v ∧ ∀ d, H1 d = none → Q (.ref C) (some d) (upd H1 d (.xd [(fld, v)]))
section
variable {X : Cx}
theorem pmk_err {C D fI cc cda : Addr} {par fld qual x : Str} {st : Stmt} {a : Expr} {ta : TA} {p pos : Pos} {k : Nat} (T : ErrTxt X.prog X.K qual st C D fI cc cda par fld) (hm : X.mg x = some (.ref C)) (hsup : X.mg "super" = none) (hr : RoomG k X.A) (ha : PA X [a] ta) (hg : Gl X x)
    (hdb : (x == ("__debug__" : Str)) = false := by decide) (he : starEach (a :: []) X.env = (false, eval a X.env) :: starEach [] X.env := by rfl) (hpl : (backTo pos (starEach [] X.env)).any (·.1) = false := by rfl) :
    PMk X (.Call (.Name x p) [a] [] pos) (tMkErr X.K C fld ta) := by
  intro pins s σ H Q I h
  refine wpAny_Call_Name_kw (ld_glob I hg hm ?_ hdb)
  refine PySem.W.callWith_K (h₀ := X.base) I.ok.mod.kin T.kC (thn (ha.run pos pins s σ H _ I h) fun us s1 hh => ?_) he hpl
  obtain ⟨vs, H1, I1, r1, v, ev, shw, q1⟩ := hh
  subst ev
  refine ⟨I1.kIn, ?_⟩
  cases r1 with
  | cons rv rn =>
    rename_i v' us'
    cases rn
    show wpAny _ _ (call (.ref C) [v']) _ _ _
    have hlim := I1.nolimit
    have hG : s1.heap.Ns mainGlobals X.mg := I1.mod.glob.keeps I1.bk
    obtain ⟨mb, b1, b2⟩ := I1.mod.blt
    have hB := b1.keeps I1.bk
    have hb : mb "super" = some (.type "super") := (b2 "super" (by decide +kernel)).trans (by decide +kernel)
    have un := hr.units
    have sv : ∀ L, ShowV X.prog X.w ((X.A.under (.builtin "type.__call__" ⟨.ref C :: [v'], []⟩)).deeper (ksEnv qual (defScope st) L fI (.ref cda) cc)) s1.heap v' := fun L => by
      rcases shw with ⟨z, rfl, hz⟩ | ⟨i, rfl, hi⟩ | ⟨b, y, rfl, dp, c1, c2, c3, c4⟩
      · obtain ⟨t, rfl⟩ := rv
        exact showV_str hz
      · obtain ⟨t, rfl⟩ := rv
        exact showV_int hi
      · obtain rfl : v' = Value.ref b := rv
        obtain ⟨as, rd⟩ := Dp.reads I1 y _ _ dp (show RelV (.ref b) (.ref b) from rfl)
        have zu : (X.A.under (.builtin "type.__call__" ⟨.ref C :: [Value.ref b], []⟩)).units = X.A.units + 1 := make_units
        have zg : (X.A.under (.builtin "type.__call__" ⟨.ref C :: [Value.ref b], []⟩)).guards = X.A.guards := make_guards
        refine showV_data rd c1 c2 ?_ ?_ c4
        · show (X.A.under (.builtin "type.__call__" ⟨.ref C :: [Value.ref b], []⟩)).guards = some []
          rw [zg]; exact hr.gd
        · show (X.A.under (.builtin "type.__call__" ⟨.ref C :: [Value.ref b], []⟩)).units + 3 + (y.depth + 2) < cLine
          have := hr.toRoom.un
          rw [zu]; omega
    obtain ⟨hp, g, dr, tk, os⟩ := s1
    refine wpAny_call (err_made T I1.kIn hG hsup hB hb hlim (by have := hr.toRoom.dp; omega) sv fun h' tk' e d M => ?_)
    show MkP X pins σ Q (.ref e) ⟨h', g, dr, tk', os⟩
    obtain ⟨oe, fv, hoe, hc, hd, hdat, h1⟩ := M.obj
    have hns := M.ns
    obtain ⟨G', g1, g2⟩ := restrict h' fun b => decide (b ≠ e)
    have gk : ∀ b, b ≠ e → G'.get? b = h'.get? b := fun b hb => g1 b (decide_eq_true hb)
    have ge : G'.get? e = none := g2 e (by simp)
    have old : ∀ b o, hp.get? b = some o → G'.get? b = some o := fun b o q => (gk b (Nat.ne_of_lt (Nat.lt_of_lt_of_le (Heap.lt_size q) M.new))).trans (M.keep b o q)
    have ob : ObjOk X.prog X.w (upd H1 d (.xd [(fld, v)])) G' d (.xd [(fld, v)]) :=
      ⟨_, hns.at (fun o q => (gk d M.dne).trans q), fun f => relO_fld rv f⟩
    have J : Inv X pins σ (upd H1 d (.xd [(fld, v)])) ⟨G', g, dr, tk', os⟩ := I1.laid (t' := tk') old M.dbig ob
    refine ⟨e, oe, fv, ⟨G', g, dr, tk', os⟩, _, .ref C, some d, rfl, J, fun b o q => ?_, ge, hoe, ⟨hc, hd⟩, hdat, h1, ?_, rfl, I1.bare, raises_own T.exC T.tyC, q1 d (I1.hok.fresh M.dbig)⟩
    · by_cases hb : b = e
      · have q' : G'.get? b = some o := q
        rw [hb, ge] at q'; cases q'
      · exact (gk b hb).symm.trans q
    · rw [upd_ne (Ne.symm M.dne)]
      exact I1.hok.fresh M.new
end
/-! ### raise X(e) -/
def shOk : D → Bool
  | .str x => decide (x.length ≤ 16000000)
  | .int i => decide (i.natAbs.log2 < 1920)
  | d => match toPy d with
    | some q => isSq d && q.showable && !q.hasDict && decide (q.depth ≤ 60) && decide (q.shown.length ≤ 16000000)
    | none => false
def sRaise (c : Nat) (fld : Str) (e : De) : Ds := fun Γ S => after (e Γ S) Γ fun d S1 => if shOk d = true then .exc ⟨c, [fld], [d]⟩ Γ S1 else .stuck
theorem shOk_shows {C : Cn} {ρ : List Addr} {G H : Hp} (s : SubH C G H) {d : D} {v : V} (h : shOk d = true) (r : Rep C ρ G d v) : Shows C.K H v := by
  have key : (match toPy d with
    | some q => isSq d && q.showable && !q.hasDict && decide (q.depth ≤ 60) && decide (q.shown.length ≤ 16000000)
    | none => false) = true → Shows C.K H v := fun h => by
    split at h
    · rename_i q hq
      simp only [Bool.and_eq_true, decide_eq_true_eq, Bool.not_eq_true'] at h
      obtain ⟨⟨⟨⟨h1, h2⟩, h3⟩, h4⟩, h5⟩ := h
      have dp := dp_of s d v q r hq
      have : ∃ a, v = V.ref a := by
        cases d <;> try cases h1
        · obtain ⟨a, vs, rfl, _⟩ := rep_lst.mp r; exact ⟨a, rfl⟩
        · obtain ⟨a, vs, rfl, _⟩ := rep_tup.mp r; exact ⟨a, rfl⟩
      obtain ⟨a, rfl⟩ := this
      exact .inr (.inr ⟨a, q, rfl, dp, h2, h3, h4, h5⟩)
    · cases h
  cases d with
  | str x => exact .inl ⟨x, rep_str.mp r, of_decide_eq_true h⟩
  | int i => exact .inr (.inl ⟨i, rep_int.mp r, of_decide_eq_true h⟩)
  | _ => exact key h
section
variable {X : Cx} {cls : Nat → Addr} {W : WX}
theorem ds_raise {c k : Nat} {D0 fI cc cda : Addr} {par fld qual x : Str} {st : Stmt} {a : Expr} {δ : De} {p pos pos2 : Pos} (hc : X.calm = true) (T : ErrTxt X.prog X.K qual st (cls (c + 3)) D0 fI cc cda par fld) (hm : X.mg x = some (.ref (cls (c + 3)))) (hsup : X.mg "super" = none) (hr : RoomG k X.A) (tk : Takes X W) (hg : Gl X x) (ha : DE X cls W a δ)
    (hdb : (x == ("__debug__" : Str)) = false := by decide) (he : starEach (a :: []) X.env = (false, eval a X.env) :: starEach [] X.env := by rfl) (hpl : (backTo pos (starEach [] X.env)).any (·.1) = false := by rfl) :
    DS X cls W (.Raise (some (.Call (.Name x p) [a] [] pos)) none pos2) (sRaise c fld δ) :=
  PS.weak (ps_raise hc tk (pmk_err T hm hsup hr (pa_cons ha pa_nil he) hg hdb he hpl)) fun Dn σ H ⟨en, Γ, S, ρ, G, s, p⟩ => ⟨Γ, S, ρ, G, s.mem, post_after s p fun d S1 ρ1 G1 H1 v m n s1 r p1 => by
    split at p1
    · rename_i hsh
      refine ⟨v, rfl, shOk_shows (C := ⟨X.K, cls⟩) m.sub hsh r, fun d1 hd1 => ?_⟩
      obtain ⟨m', n', np, gp⟩ := m.new (o := .xd [(fld, v)]) hd1
      obtain ⟨m2, n2, k2⟩ := Mem.settle m n' m' hd1 gp np upd_same
      exact p1 _ _ ρ1 _ _ σ (s1.step m2 n2) ⟨rfl, (fun z => by cases z), fun _ => ⟨d1, [v], rfl, upd_same, rfl, .cons (r.mono k2 (List.prefix_refl _)) .nil⟩⟩
    · exact p1.elim⟩
end
end DL

namespace DL
open PySem PySem.Spec PyProof.Rows L2
/-! ### try, except -/
def isX : Sl → Bool | .xcp _ => true | _ => false
def noX (Γ : List Sl) : Bool := Γ.all fun s => !isX s
theorem noX_get {Γ : List Sl} (h : noX Γ = true) {i : Nat} {x : Exn} (e : Γ[i]? = some (.xcp x)) : False := by
  have := List.all_eq_true.mp h _ (List.mem_of_getElem? e)
  cases this
section
variable {C C' : Cn} {ρ : List Addr} {G H : Hp}
mutual
theorem Rep.re (hK : C'.K = C.K) (hc : ∀ n, C'.cls (n + 3) = C.cls (n + 3)) : ∀ (d : D) (v : V), Rep C ρ G d v → Rep C' ρ G d v
  | .non, _, h => by rw [Rep] at h ⊢; exact h
  | .bl _, _, h => by rw [Rep] at h ⊢; exact h
  | .int _, _, h => by rw [Rep] at h ⊢; exact h
  | .str _, _, h => by rw [Rep] at h ⊢; exact h
  | .lst xs, _, h => by
    rw [Rep] at h ⊢
    obtain ⟨a, vs, rfl, h1, h2⟩ := h
    exact ⟨a, vs, rfl, h1, Reps.re hK hc xs vs h2⟩
  | .tup xs, _, h => by
    rw [Rep] at h ⊢
    obtain ⟨a, vs, rfl, h1, h2⟩ := h
    exact ⟨a, vs, rfl, by rw [hK]; exact h1, Reps.re hK hc xs vs h2⟩
  | .dct ks xs, _, h => by
    rw [Rep] at h ⊢
    obtain ⟨a, vs, rfl, h1, h3, h2⟩ := h
    exact ⟨a, vs, rfl, h1, h3, Reps.re hK hc xs vs h2⟩
  | .ins c ns xs, _, h => by
    rw [Rep] at h ⊢
    obtain ⟨a, dx, vs, rfl, h1, h3, h2⟩ := h
    exact ⟨a, dx, vs, rfl, by rw [hc]; exact h1, h3, Reps.re hK hc xs vs h2⟩
  | .ptr _, _, h => by rw [Rep] at h ⊢; exact h
  | .scr ns, _, h => by
    rw [Rep] at h ⊢
    obtain ⟨a, rfl, h1⟩ := h
    exact ⟨a, rfl, by rw [hK]; exact h1⟩
theorem Reps.re (hK : C'.K = C.K) (hc : ∀ n, C'.cls (n + 3) = C.cls (n + 3)) : ∀ (d : List D) (v : List V), Reps C ρ G d v → Reps C' ρ G d v
  | [], _, h => by rw [Reps] at h ⊢; exact h
  | x :: xs, _, h => by
    rw [Reps] at h ⊢
    obtain ⟨v, r, rfl, h1, h2⟩ := h
    exact ⟨v, r, rfl, Rep.re hK hc x v h1, Reps.re hK hc xs r h2⟩
end
theorem ObAt.re {a : Addr} (hK : C'.K = C.K) (hc : ∀ n, C'.cls (n + 3) = C.cls (n + 3)) : ∀ {d : D}, ObAt C ρ G H a d → ObAt C' ρ G H a d
  | .lst xs, ⟨vs, h, r⟩ => ⟨vs, h, Reps.re hK hc _ _ r⟩
  | .dct ks xs, ⟨vs, h, l, r⟩ => ⟨vs, h, l, Reps.re hK hc _ _ r⟩
  | .ins c ns xs, ⟨dx, vs, h, l, r⟩ => ⟨dx, vs, by rw [hc]; exact h, l, Reps.re hK hc _ _ r⟩
theorem SubH.re (hc : ∀ n, C'.cls (n + 3) = C.cls (n + 3)) (m : SubH C G H) : SubH C' G H := ⟨m.at_, fun i z => by
  have e : C'.cls (i + 1000) = C.cls (i + 1000) := hc (i + 997)
  rw [e] at z ⊢
  exact m.tab i z⟩
theorem Mem.re {Γ : List Sl} {S : List D} {σ : L2.St} (hK : C'.K = C.K) (hc : ∀ n, C'.cls (n + 3) = C.cls (n + 3)) (hx : noX Γ = true) (m : Mem C Γ S ρ G H σ) : Mem C' Γ S ρ G H σ where
  sub := m.sub.re hc
  val := fun i d h => by
    obtain ⟨v, e, r⟩ := m.val i d h
    exact ⟨v, e, r.re hK hc⟩
  own := fun i d h => by
    obtain ⟨a, e, r, z⟩ := m.own i d h
    exact ⟨a, e, r.re hK hc, z⟩
  inj := m.inj
  sto := fun i d h => by
    obtain ⟨a, e, r⟩ := m.sto i d h
    exact ⟨a, e, r.re hK hc⟩
  stG := m.stG
  len := m.len
  nd := m.nd
  wid := m.wid
  xcp := fun i x h => (noX_get hx h).elim
theorem SI.re {en : Ent} {Γ : List Sl} {S : List D} {σ : L2.St} (hK : C'.K = C.K) (hc : ∀ n, C'.cls (n + 3) = C.cls (n + 3)) (hx : noX Γ = true) (s : SI C en Γ S ρ G H σ) : SI C' en Γ S ρ G H σ := ⟨s.mem.re hK hc hx, s.nx, s.frs, s.base, s.basr, s.old⟩
/-- a slot takes the error -/
theorem SI.setx {en : Ent} {Γ : List Sl} {S : List D} {σ : L2.St} (s : SI C en Γ S ρ G H σ) (i : Nat) {x : Exn} (r : XOk C ρ G x) : SI C en (Γ.set i (.xcp x)) S ρ G H (σ.set i (some (V.ref (C.cls 0)))) := by
  have ne : ∀ (j : Nat) (y : Sl), (∀ z, y ≠ .xcp z) → (Γ.set i (Sl.xcp x))[j]? = some y → i ≠ j ∧ Γ[j]? = some y := fun j y hy h => by
    by_cases e : i = j
    · subst e
      by_cases hl : i < Γ.length
      · rw [List.getElem?_set_self hl] at h; cases h; exact absurd rfl (hy x)
      · rw [List.getElem?_eq_none (by simpa using hl)] at h; cases h
    · rw [List.getElem?_set_ne e] at h; exact ⟨e, h⟩
  refine ⟨⟨s.mem.sub, fun j d h => ?_, fun j d h => ?_, fun j k d d' a h1 h2 => ?_, s.mem.sto, s.mem.stG, s.mem.len, s.mem.nd, by rw [List.length_set, List.length_set]; exact s.mem.wid, fun j y h => ?_⟩, s.nx, fun j d a h1 h2 => ?_, s.base, s.basr, s.old⟩
  · obtain ⟨e, g⟩ := ne j (.val d) (fun z w => by cases w) h
    rw [List.getElem?_set_ne e]; exact s.mem.val j d g
  · obtain ⟨e, g⟩ := ne j (.own d) (fun z w => by cases w) h
    rw [List.getElem?_set_ne e]; exact s.mem.own j d g
  · obtain ⟨e1, g1⟩ := ne j (.own d) (fun z w => by cases w) h1
    obtain ⟨e2, g2⟩ := ne k (.own d') (fun z w => by cases w) h2
    rw [List.getElem?_set_ne e1, List.getElem?_set_ne e2]
    exact s.mem.inj j k d d' a g1 g2
  · by_cases e : i = j
    · subst e
      by_cases hl : i < Γ.length
      · rw [List.getElem?_set_self hl] at h; cases h
        exact ⟨List.getElem?_set_self (by rw [← s.mem.wid]; exact hl), r⟩
      · rw [List.getElem?_eq_none (by simpa using hl)] at h; cases h
    · rw [List.getElem?_set_ne e] at h
      rw [List.getElem?_set_ne e]; exact s.mem.xcp j y h
  · obtain ⟨e, g⟩ := ne j (.own d) (fun z w => by cases w) h1
    rw [List.getElem?_set_ne e] at h2; exact s.frs j d a g h2
/-- .. and gives it back -/
theorem SI.unset {en : Ent} {Γ : List Sl} {S : List D} {σ : L2.St} (s : SI C en Γ S ρ G H σ) (i : Nat) : SI C en (Γ.set i .non) S ρ G H (σ.set i none) := by
  have ne : ∀ (j : Nat) (y : Sl), y ≠ .non → (Γ.set i Sl.non)[j]? = some y → i ≠ j ∧ Γ[j]? = some y := fun j y hy h => by
    by_cases e : i = j
    · subst e
      by_cases hl : i < Γ.length
      · rw [List.getElem?_set_self hl] at h; cases h; exact absurd rfl hy
      · rw [List.getElem?_eq_none (by simpa using hl)] at h; cases h
    · rw [List.getElem?_set_ne e] at h; exact ⟨e, h⟩
  refine ⟨⟨s.mem.sub, fun j d h => ?_, fun j d h => ?_, fun j k d d' a h1 h2 => ?_, s.mem.sto, s.mem.stG, s.mem.len, s.mem.nd, by rw [List.length_set, List.length_set]; exact s.mem.wid, fun j y h => ?_⟩, s.nx, fun j d a h1 h2 => ?_, s.base, s.basr, s.old⟩
  · obtain ⟨e, g⟩ := ne j (.val d) (fun w => by cases w) h
    rw [List.getElem?_set_ne e]; exact s.mem.val j d g
  · obtain ⟨e, g⟩ := ne j (.own d) (fun w => by cases w) h
    rw [List.getElem?_set_ne e]; exact s.mem.own j d g
  · obtain ⟨e1, g1⟩ := ne j (.own d) (fun w => by cases w) h1
    obtain ⟨e2, g2⟩ := ne k (.own d') (fun w => by cases w) h2
    rw [List.getElem?_set_ne e1, List.getElem?_set_ne e2]
    exact s.mem.inj j k d d' a g1 g2
  · obtain ⟨e, g⟩ := ne j (.xcp y) (fun w => by cases w) h
    rw [List.getElem?_set_ne e]; exact s.mem.xcp j y g
  · obtain ⟨e, g⟩ := ne j (.own d) (fun w => by cases w) h1
    rw [List.getElem?_set_ne e] at h2; exact s.frs j d a g h2
end
/-- the classes by number, while an error is handled -/
def xcls (cls : Nat → Addr) (a : Addr) (d : Option Addr) (v : Value) : Nat → Addr
  | 0 => a
  | 1 => match d with | some d => d + 1 | none => 0
  | 2 => match v with | .ref r => r | _ => 0
  | n + 3 => cls (n + 3)
structure Su (cls cls' : Nat → Addr) (a : Addr) (oe : Obj) : Prop where
  a0 : cls' 0 = a
  z : Zc (.ref (cls' 2)) (match cls' 1 with | 0 => none | d + 1 => some d) oe
  f : ∃ vs, oe.data = .fields vs
  up : ∀ n, cls' (n + 3) = cls (n + 3)
def setxD (i : Option Nat) (e : Exn) (Γ : List Sl) : List Sl := match i with | some i => Γ.set i (.xcp e) | none => Γ
def unxD (i : Option Nat) (Γ : List Sl) : List Sl := match i with | some i => Γ.set i .non | none => Γ
def unx (i : Option Nat) : Out → Out
  | .next Γ S => if noX (unxD i Γ) then .next (unxD i Γ) S else .stuck
  | .brk Γ S => if noX (unxD i Γ) then .brk (unxD i Γ) S else .stuck
  | .cont Γ S => if noX (unxD i Γ) then .cont (unxD i Γ) S else .stuck
  | .ret d S => .ret d S
  | _ => .stuck
def sTry (i : Option Nat) (f : Nat → Option Bool) (b h : Ds) : Ds := fun Γ S => match b Γ S with
  | .exc e Γ1 S1 => match f e.c with
    | some true => if noX Γ1 then unx i (h (setxD i e Γ1) S1) else .stuck
    | some false => .exc e Γ1 S1
    | none => .stuck
  | o => o
theorem PSs.given {X : Cx} {st : List Stmt} {t : TS} {p : Prop} (h : p → PSs X st t) : PSs X st (fun D σ H => p ∧ t D σ H) := ⟨fun pins s σ H D I h' => (h h'.1).run pins s σ H D I h'.2⟩
section
variable {X : Cx} {cls : Nat → Addr} {W : WX} {x n : Str} {i : Nat} {CX : Addr} {body suite : List Stmt} {b₀ : Stmt} {np pos pos' : Pos} {δb δh : Ds} {f : Nat → Option Bool}
def tsD (X : Cx) (cls : Nat → Addr) (δh : Ds) (a : Addr) (clsv : Value) (d : Option Addr) : TS := fun D σ H => clsv = .ref (xcls cls a d clsv 2) ∧ tS ⟨X.K, xcls cls a d clsv⟩ W0 δh D σ H
theorem su_of {a : Addr} {oe : Obj} {clsv : Value} {d : Option Addr} (hz : Zc clsv d oe) (hf : ∃ vs, oe.data = .fields vs) (e : clsv = .ref (xcls cls a d clsv 2)) : Su cls (xcls cls a d clsv) a oe := ⟨rfl, by
  rw [← e]
  cases d with
  | none => exact hz
  | some d => exact hz, hf, fun n => rfl⟩
theorem try_core {C C' : Cn} {en : Ent} {Dn : Ends} {oi : Option Nat} {o : Out} (hK : C'.K = C.K) (hc : ∀ n, C'.cls (n + 3) = C.cls (n + 3)) {un : L2.St → L2.St} (hun : ∀ Γ S ρ G H σ, SI C' en Γ S ρ G H σ → SI C' en (unxD oi Γ) S ρ G H (un σ))
    (p : PostS C W en Dn (unx oi o)) : PostS C' W0 en { nx := fun σ H => Dn.nx (un σ) H, rt := Dn.rt, bk := fun σ H => Dn.bk (un σ) H, ct := fun σ H => Dn.ct (un σ) H } o := by
  have hK' := hK.symm
  have hc' : ∀ n, C.cls (n + 3) = C'.cls (n + 3) := fun n => (hc n).symm
  cases o with
  | next Γ S =>
    replace p : PostS C W en Dn (if noX (unxD oi Γ) = true then .next (unxD oi Γ) S else .stuck) := p
    split at p
    · rename_i hx
      exact fun ρ G H σ s => p ρ G H _ ((hun _ _ _ _ _ _ s).re hK' hc' hx)
    · exact p.elim
  | brk Γ S =>
    replace p : PostS C W en Dn (if noX (unxD oi Γ) = true then .brk (unxD oi Γ) S else .stuck) := p
    split at p
    · rename_i hx
      exact fun ρ G H σ s => p ρ G H _ ((hun _ _ _ _ _ _ s).re hK' hc' hx)
    · exact p.elim
  | cont Γ S =>
    replace p : PostS C W en Dn (if noX (unxD oi Γ) = true then .cont (unxD oi Γ) S else .stuck) := p
    split at p
    · rename_i hx
      exact fun ρ G H σ s => p ρ G H _ ((hun _ _ _ _ _ _ s).re hK' hc' hx)
    · exact p.elim
  | ret d S => exact fun v ρ G H m n o r => p v ρ G H (Mem.re hK' hc' rfl m) n o (r.re hK' hc')
  | exc e Γ S => exact p.elim
  | stuck => exact p.elim
theorem xok_of {ρ : List Addr} {G H : Hp} {e : Exn} {clsv : Value} {d : Option Addr} {a : Addr} (er : ExRep ⟨X.K, cls⟩ ρ G H e clsv d) : clsv = .ref (xcls cls a d clsv 2) ∧ XOk ⟨X.K, xcls cls a d clsv⟩ ρ G e := by
  obtain ⟨e1, e2, e3⟩ := er
  subst e1
  refine ⟨rfl, rfl, fun z => ?_, fun z => ?_⟩
  · rw [e2 z]; rfl
  · obtain ⟨d1, vs, rfl, g, l, r⟩ := e3 z
    exact ⟨d1, vs, rfl, g, l, Reps.re (C := ⟨X.K, cls⟩) (C' := ⟨X.K, xcls cls a (some d1) _⟩) rfl (fun n => rfl) _ _ r⟩
theorem ds_try_as (hs : X.stack = X.env :: X.outer) (hfr : X.env.frame = some X.env.locals) (hN : X.N.Nodup) (hi : X.N[i]? = some n) (hln : X.env.kindOf n = some .local) (hc : Names X x (.ref CX)) (tk : Takes X W)
    (hf : ∀ c b, f c = some b → PySem.W.exmOne X.K (.ref (cls (c + 3))) (.ref CX) = some b)
    (hb : ∀ (W : WX) (pn : List (Addr × Obj)) (xe : Value → Shared → Prop), Takes (X.tr pn xe) W → PassesOwn (model X.prog X.w) X.A X.env xe → DSs (X.tr pn xe) cls W body δb)
    (hsu : ∀ (a : Addr) (oe : Obj) (pn : List (Addr × Obj)) (cls' : Nat → Addr), Su cls cls' a oe → DSs (X.suite a ((a, oe) :: pn)) cls' W0 (b₀ :: suite) δh) :
    DS X cls W (.Try body [.ExceptHandler (some (.Name x np)) (some n) (b₀ :: suite) pos'] [] [] pos) (sTry (some i) f δb δh) :=
  PS.weak (ps_try_as (tb := fun W => tS ⟨X.K, cls⟩ W δb) (ts := tsD X cls δh) hs hfr hN hi hln hc tk (fun W pn xe tk hp => hb W pn xe tk hp)
    (fun a oe clsv d pn hz hf => PSs.given fun e => hsu a oe pn _ (su_of hz hf e))) fun Dn σ H ⟨en, Γ, S, ρ, G, s, p⟩ => ⟨en, Γ, S, ρ, G, s, by
    unfold sTry at p
    cases q : δb Γ S with
    | next Γ1 S1 => rw [q] at p; exact p
    | brk Γ1 S1 => rw [q] at p; exact p
    | cont Γ1 S1 => rw [q] at p; exact p
    | ret d S1 => rw [q] at p; exact p
    | stuck => rw [q] at p; exact p
    | exc e Γ1 S1 =>
      rw [q] at p
      intro clsv dx ρ1 G1 H1 σ1 s1 er
      have ec : clsv = .ref (cls (e.c + 3)) := er.1
      simp only at p
      cases hfe : f e.c with
      | none => rw [hfe] at p; exact p.elim
      | some b =>
        rw [hfe] at p
        refine ⟨b, by rw [ec]; exact hf _ _ hfe, fun hbt a na => ?_, fun hbf => ?_⟩
        · subst hbt
          simp only at p
          split at p
          · rename_i hx
            obtain ⟨z1, z2⟩ := xok_of (X := X) (a := a) er
            have s2 := (SI.re (C := ⟨X.K, cls⟩) (C' := ⟨X.K, xcls cls a dx clsv⟩) rfl (fun n => rfl) hx s1).setx i z2
            exact ⟨z1, en, _, S1, ρ1, G1, s2, try_core (C := ⟨X.K, cls⟩) (C' := ⟨X.K, xcls cls a dx clsv⟩) (oi := some i) rfl (fun n => rfl) (fun _ _ _ _ _ _ s => s.unset i) p⟩
          · exact p.elim
        · subst hbf
          exact p clsv dx ρ1 G1 H1 σ1 s1 er⟩
theorem ds_try_only (hs : X.stack = X.env :: X.outer) (hfr : X.env.frame = some X.env.locals) (hc : Names X x (.ref CX)) (tk : Takes X W)
    (hf : ∀ c b, f c = some b → PySem.W.exmOne X.K (.ref (cls (c + 3))) (.ref CX) = some b)
    (hb : ∀ (W : WX) (pn : List (Addr × Obj)) (xe : Value → Shared → Prop), Takes (X.tr pn xe) W → PassesOwn (model X.prog X.w) X.A X.env xe → DSs (X.tr pn xe) cls W body δb)
    (hsu : ∀ (a : Addr) (oe : Obj) (pn : List (Addr × Obj)) (cls' : Nat → Addr), Su cls cls' a oe → DSs (X.suite a ((a, oe) :: pn)) cls' W0 (b₀ :: suite) δh) :
    DS X cls W (.Try body [.ExceptHandler (some (.Name x np)) none (b₀ :: suite) pos'] [] [] pos) (sTry none f δb δh) :=
  PS.weak (ps_try_only (tb := fun W => tS ⟨X.K, cls⟩ W δb) (ts := tsD X cls δh) hs hfr hc tk (fun W pn xe tk hp => hb W pn xe tk hp)
    (fun a oe clsv d pn hz hf => PSs.given fun e => hsu a oe pn _ (su_of hz hf e))) fun Dn σ H ⟨en, Γ, S, ρ, G, s, p⟩ => ⟨en, Γ, S, ρ, G, s, by
    unfold sTry at p
    cases q : δb Γ S with
    | next Γ1 S1 => rw [q] at p; exact p
    | brk Γ1 S1 => rw [q] at p; exact p
    | cont Γ1 S1 => rw [q] at p; exact p
    | ret d S1 => rw [q] at p; exact p
    | stuck => rw [q] at p; exact p
    | exc e Γ1 S1 =>
      rw [q] at p
      intro clsv dx ρ1 G1 H1 σ1 s1 er
      have ec : clsv = .ref (cls (e.c + 3)) := er.1
      simp only at p
      cases hfe : f e.c with
      | none => rw [hfe] at p; exact p.elim
      | some b =>
        rw [hfe] at p
        refine ⟨b, by rw [ec]; exact hf _ _ hfe, fun hbt a na => ?_, fun hbf => ?_⟩
        · subst hbt
          simp only at p
          split at p
          · rename_i hx
            obtain ⟨z1, z2⟩ := xok_of (X := X) (a := a) er
            have s2 := SI.re (C := ⟨X.K, cls⟩) (C' := ⟨X.K, xcls cls a dx clsv⟩) rfl (fun n => rfl) hx s1
            exact ⟨z1, en, _, S1, ρ1, G1, s2, try_core (C := ⟨X.K, cls⟩) (C' := ⟨X.K, xcls cls a dx clsv⟩) (oi := none) (un := fun σ => σ) rfl (fun n => rfl) (fun _ _ _ _ _ _ s => s) p⟩
          · exact p.elim
        · subst hbf
          exact p clsv dx ρ1 G1 H1 σ1 s1 er⟩
end
/-! ### e.f, e the error that is handled -/
def eXf (i : Nat) (f : Str) (g : Nat → Bool) : De := fun Γ S => match Γ[i]? with
  | some (.xcp x) => if g x.c = true then ofO ((x.ns.zip x.fs).lookup f) S else .stuck
  | _ => .stuck
theorem zip_lookup {C : Cn} {ρ : List Addr} {G : Hp} {f : Str} {d : D} : ∀ {ns : List Str} {ds : List D} {vs : List V}, Reps C ρ G ds vs → (ns.zip ds).lookup f = some d → ∃ v, (ns.zip vs).lookup f = some v ∧ Rep C ρ G d v
  | [], _, _, _, h => by cases h
  | n :: ns, [], _, _, h => by cases h
  | n :: ns, d0 :: ds, vs, r, h => by
    obtain ⟨v, us, rfl, h1, h2⟩ := r.inv
    rw [List.zip_cons_cons] at h ⊢
    by_cases e : f = n
    · subst e
      simp [List.lookup] at h
      subst h
      exact ⟨v, by simp [List.lookup], h1⟩
    · have e2 : (f == n) = false := by simpa using e
      simp only [List.lookup, e2] at h ⊢
      exact zip_lookup h2 h
section
variable {X : Cx} {cls cls' : Nat → Addr} {a : Addr} {oe : Obj} {pn : List (Addr × Obj)} {pos p p2 : Pos} {f y : Str} {g : Nat → Bool}
theorem de_xf (u : Su cls cls' a oe) (i : Nat) {x : Str} (hg : ∀ c, g c = true → XfC X.K (cls (c + 3)) ∧ PySem.W.findIn X.K (.ref (cls (c + 3))) f = some none) (he : PE (X.suite a ((a, oe) :: pn)) (.Name x p) (tVar i))
    (hb : attributeBase (.Name x p) f X.env (eval (.Name x p) X.env) = eval (.Name x p) X.env := by rfl) : DE (X.suite a ((a, oe) :: pn)) cls' W0 (.Attribute (.Name x p) f pos) (eXf i f g) := by
  refine ⟨fun pins s σ H Q I h => ?_⟩
  obtain ⟨Γ, S, ρ, G, m, q⟩ := h
  unfold eXf at q
  split at q
  · rename_i xn hx
    split at q
    · rename_i hgx
      obtain ⟨d, hd, q2⟩ := ofO_post q
      obtain ⟨e0, x1, x2, x3⟩ := m.xcp i xn hx
      have hcls : cls' 2 = cls (xn.c + 3) := x1.trans (u.up _)
      obtain ⟨T, hno⟩ := hg _ hgx
      have hfs : xn.fs ≠ [] := fun z => by rw [z] at hd; cases hn : xn.ns <;> rw [hn] at hd <;> cases hd
      obtain ⟨d1, vs, e1, gd, hl, r⟩ := x3 hfs
      obtain ⟨v, hv, rv⟩ := zip_lookup r hd
      have hz := u.z
      have e1' : cls' 1 = d1 + 1 := e1
      rw [e1'] at hz
      have a0 : cls' 0 = a := u.a0
      have e0' : σ[i]? = some (some (V.ref a)) := by rw [← a0]; exact e0
      exact (pe_xf (X := X) (C := cls (xn.c + 3)) (cls := .ref (cls' 2)) (d := some d1) T hno hz u.f he hb).run pins s σ H Q I ⟨_, e0', rfl, by rw [hcls], d1, _, v, rfl, m.sub.get gd (fun _ z => nomatch z), hv, q2.at m rv⟩
    · exact q.elim
  · exact q.elim
end
end DL

namespace DL
open PySem PySem.Spec PyProof.Rows L2
/-! ### isinstance(e, X), e the error that is handled -/
def eIsX (i : Nat) (f : Nat → Option Bool) : De := fun Γ S => match Γ[i]? with
  | some (.xcp x) => ofO ((f x.c).map .bl) S
  | _ => .stuck
section
variable {X : Cx} {cls cls' : Nat → Addr} {a CX : Addr} {oe : Obj} {pn : List (Addr × Obj)} {pos p p1 p2 : Pos} {x y : Str} {f : Nat → Option Bool}
def rIsX (K : PySem.W.Frag) (cls' : Nat → Addr) (a CX : Addr) : List V → Hp → VK → Prop := fun xs H Q => ∃ b, xs = [.ref a, .ref CX] ∧ ExcC K (cls' 2) ∧ (∀ d, cls' 1 = d + 1 → ∃ fs, H d = some (.xd fs)) ∧ PySem.W.kitOne K (.ref (cls' 2)) (.ref CX) = some b ∧ Q (.bl b) H
theorem call_isX (u : Su cls cls' a oe) : CallR (X.suite a ((a, oe) :: pn)) (.builtin "isinstance") (rIsX X.K cls' a CX) := by
  intro pins s σ H xs us Q I r h
  obtain ⟨b, rfl, C, hd, e, q⟩ := h
  cases r with
  | cons rx rr =>
    cases rr with
    | cons rt rr =>
      cases rr
      cases rx
      cases rt
      obtain ⟨hget, _⟩ := I.pin (a, oe) (List.mem_append.mpr (.inl List.mem_cons_self))
      obtain ⟨vs, hv⟩ := u.f
      have hz := u.z
      obtain ⟨cd, hcd, _⟩ := PySem.W.any_some C.hd
      have fin : ∀ od, PySem.W.InstAt s.heap a oe (cls' 2) od → wpAny (model X.prog X.w) X.A.in1 (pure ()) (fun _ _ => True) (fun _ _ => True) s → wpAny (model (X.suite a ((a, oe) :: pn)).prog (X.suite a ((a, oe) :: pn)).w) (X.suite a ((a, oe) :: pn)).A (call (.builtin "isinstance") [.ref a, .ref CX]) (EP (X.suite a ((a, oe) :: pn)) pins σ Q) (X.suite a ((a, oe) :: pn)).xe s := fun od J _ =>
        PySem.W.kia_one (PySem.W.kitx_exc (by rw [hcd]; rfl) C.hg C.hk C.hs C.ha C.hn C.ht C.hm) I.kIn J e (fun z => nomatch z) fun tk => ⟨.bl b, H, I.kept (t' := tk) fun _ _ z => z, rfl, q⟩
      cases h1 : cls' 1 with
      | zero =>
        rw [h1] at hz
        refine fin none ?_ (wpAny_pure trivial)
        exact ⟨hget, hz.1, by unfold PySem.W.notCls; rw [hv] <;> rfl, by rw [hz.2]; trivial⟩
      | succ d =>
        rw [h1] at hz
        obtain ⟨fs, hfs⟩ := hd d h1
        have hx : ObjOk X.prog X.w H s.heap d (.xd fs) := I.hok d _ hfs
        obtain ⟨mA, hns, hr⟩ := hx
        obtain ⟨od, ho, hl⟩ := lookIn_ns hns
        refine fin (some od) ?_ (wpAny_pure trivial)
        exact ⟨hget, hz.1, by unfold PySem.W.notCls; rw [hv] <;> rfl, by rw [hz.2]; exact ho⟩
theorem de_isx (u : Su cls cls' a oe) (i : Nat) (hg : Gl X "isinstance") (hm : X.mg "isinstance" = none) (hgC : Gl X y) (hmC : X.mg y = some (.ref CX)) (hf : ∀ c b, f c = some b → ExcC X.K (cls (c + 3)) ∧ PySem.W.kitOne X.K (.ref (cls (c + 3))) (.ref CX) = some b)
    (hx : PE (X.suite a ((a, oe) :: pn)) (.Name x p1) (tVar i)) (hdb : (y == ("__debug__" : Str)) = false := by decide)
    (he : starEach [.Name x p1, .Name y p2] (X.suite a ((a, oe) :: pn)).env = (false, eval (.Name x p1) (X.suite a ((a, oe) :: pn)).env) :: starEach [.Name y p2] (X.suite a ((a, oe) :: pn)).env := by rfl) (he2 : starEach [.Name y p2] (X.suite a ((a, oe) :: pn)).env = (false, eval (.Name y p2) (X.suite a ((a, oe) :: pn)).env) :: starEach [] (X.suite a ((a, oe) :: pn)).env := by rfl)
    (hpl : (backTo pos (starEach [.Name y p2] (X.suite a ((a, oe) :: pn)).env)).any (·.1) = false := by rfl) :
    DE (X.suite a ((a, oe) :: pn)) cls' W0 (.Call (.Name "isinstance" p) [.Name x p1, .Name y p2] [] pos) (eIsX i f) :=
  PE.weak (pe_callB (X := X.suite a ((a, oe) :: pn)) (call_isX (X := X) (CX := CX) u) hg hm (by decide +kernel) (pa_cons hx (pa_cons (pe_glob (X := X.suite a ((a, oe) :: pn)) (v := .ref CX) hgC hmC rfl hdb) pa_nil he2) he) (by decide) (by decide) he hpl) fun σ H Q ⟨Γ, S, ρ, G, m, q⟩ => by
    unfold eIsX at q
    split at q
    · rename_i xn hxn
      obtain ⟨d, hd, q2⟩ := ofO_post q
      obtain ⟨e0, x1, x2, x3⟩ := m.xcp i xn hxn
      have hcls : cls' 2 = cls (xn.c + 3) := x1.trans (u.up _)
      cases hfc : f xn.c with
      | none => rw [hfc] at hd; cases hd
      | some b =>
        rw [hfc] at hd; cases hd
        obtain ⟨C, k⟩ := hf _ _ hfc
        have a0 : cls' 0 = a := u.a0
        have e0' : σ[i]? = some (some (V.ref a)) := by rw [← a0]; exact e0
        refine ⟨_, e0', b, rfl, by rw [hcls]; exact C, fun d hd => ?_, by rw [hcls]; exact k, q2.at m (rep_bl.mpr rfl)⟩
        by_cases z : xn.fs = []
        · have y1 : cls' 1 = 0 := x2 z
          rw [y1] at hd; cases hd
        · obtain ⟨d1, vs, e1, gd, _, _⟩ := x3 z
          have y1 : cls' 1 = d1 + 1 := e1
          rw [y1] at hd; cases hd
          exact ⟨_, m.sub.get gd (fun _ z => nomatch z)⟩
    · exact q.elim
end
end DL

namespace DL
open PySem PySem.Spec PyProof.Rows L2
/-! ### dict comprehensions -/
def dcompD (p : Pat) (τ : Dt) (κ ε : De) : List D → List Sl → List D → List Key × List D → Res (List Key × List D)
  | [], _, S, acc => .ok acc S
  | x :: xs, Γ, S, acc => match p.bind x Γ with
    | none => .stuck
    | some Γ1 => (nox (τ Γ1 S)).bind fun k S1 => if k then (nox (κ Γ1 S1)).bind fun y S2 => (nox (ε Γ1 S2)).bind fun z S3 => match keyD y with
        | some q => if acc.2.length < sizeLine then dcompD p τ κ ε xs Γ S3 (dPut acc.1 acc.2 q z) else .stuck
        | none => .stuck
      else dcompD p τ κ ε xs Γ S1 acc
def eDComp (ι : Da) (p : Pat) (vs : List Nat) (τ : Dt) (κ ε : De) : De := fun Γ S => (ι Γ S).bind fun xs S1 => (dcompD p τ κ ε xs (wipeD Γ vs) S1 ([], [])).bind fun a S2 => .ok (.dct a.1 a.2) S2
section
variable {X : Cx} {cls : Nat → Addr} {W : WX}
theorem x_dcomp {ι : Da} {p : Pat} {τ : Dt} {κ ε : De} {vs : List Nat} (hv : ∀ i ∈ p.vars, i ∈ vs) {σ : L2.St} {H : Hp} {Q : VK} (h : tE ⟨X.K, cls⟩ W (RF ⟨X.K, cls⟩) (eDComp ι p vs τ κ ε) σ H Q) :
    tDc (tI ⟨X.K, cls⟩ W ι) (p.g X.K) (tT ⟨X.K, cls⟩ W0 τ) (tE ⟨X.K, cls⟩ W0 (RS ⟨X.K, cls⟩) κ) (tE ⟨X.K, cls⟩ W0 (RS ⟨X.K, cls⟩) ε) vs σ H Q := by
  obtain ⟨Γ, S, ρ, G, m, q⟩ := h
  refine ⟨Γ, S, ρ, G, m, ?_⟩
  unfold eDComp at q
  cases z : ι Γ S with
  | exc x S1 => rw [z] at q; exact q
  | stuck => rw [z] at q; exact q
  | ok xs S1 =>
    rw [z] at q
    simp only [Res.bind_ok] at q
    intro J ρ1 G1 H1 m1 n1 sk D0 hD
    have hown : ∀ (i : Nat) (d : D) (b : Addr), Γ[i]? = some (Sl.own d) → σ[i]? = some (some (V.ref b)) → b ≠ D0 := fun i d b h1 h2 e => by
      obtain ⟨b', e', r', _⟩ := m1.own i d h1
      rw [h2] at e'; cases e'
      obtain ⟨o, ho⟩ := r'.some
      rw [e, hD] at ho; cases ho
    have gD : G1 D0 = none := by
      cases e : G1 D0 with
      | none => rfl
      | some o => obtain ⟨_, z⟩ := m1.sub.has e; rw [z] at hD; cases hD
    have pD : D0 ∉ ρ1 := fun e => by
      obtain ⟨i, hi⟩ := List.mem_iff_getElem?.mp e
      have hi2 : i < S1.length := by rw [← m1.len]; exact (List.getElem?_eq_some_iff.mp hi).1
      obtain ⟨a, ha, r⟩ := m1.sto i S1[i] (List.getElem?_eq_getElem hi2)
      rw [hi] at ha; cases ha
      obtain ⟨o, ho⟩ := r.some
      rw [ho] at hD; cases hD
    let Pv : Nat → Hp → Prop := fun i H => ∃ S ρ G us, ∃ acc : List Key × List D, Mem ⟨X.K, cls⟩ Γ S ρ G H σ ∧ H D0 = some (.dK (acc.1.zip us)) ∧ acc.1.length = acc.2.length ∧ Reps ⟨X.K, cls⟩ ρ G acc.2 us ∧ D0 ∉ ρ ∧ G D0 = none ∧ Nx ρ1 G1 H1 ρ G H ∧
      dcompD p τ κ ε xs (wipeD Γ vs) S1 ([], []) = dcompD p τ κ ε (xs.drop i) (wipeD Γ vs) S acc
    refine ⟨fun i mm H => mm = xs.length - i ∧ i ≤ xs.length ∧ Pv i H, ⟨xs.length, by omega, Nat.zero_le _, S1, ρ1, G1, [], ([], []), m1.aside gD (noTE_of hD) pD hown, upd_same, rfl, .nil, pD, gD, Nx.refl.aside hD, ?_⟩, fun i mm H ⟨hm, hi, S, ρ, G, us, acc, ms, hacc, hlen, racc, pD', gD', nn, eqn⟩ => ?_⟩
    · rw [List.drop_zero]
    · have sub1 : Sub G1 G := nn.ext
      by_cases hlt : i < xs.length
      · rw [List.drop_eq_getElem_cons hlt, dcompD] at eqn
        refine .inr ⟨sk.go S ρ G H i ms.toS sub1 nn.pre (old_of m1 nn) hlt, Pv (i + 1), fun H' n => ⟨xs.length - (i + 1), by omega, rfl, hlt, n⟩, fun x H' y => ?_⟩
        obtain ⟨G', m', n', r'⟩ := sk.yld S ρ G H i x H' _ ms.toS sub1 nn.pre (old_of m1 nn) (List.getElem?_eq_getElem hlt) y
        have mH' := ms.step n' m'
        have mw := mH'.wipe vs
        cases hbd : p.bind xs[i] (wipeD Γ vs) with
        | none => rw [hbd] at eqn; rw [eqn] at q; exact q.elim
        | some Γ1 =>
          rw [hbd] at eqn
          simp only at eqn
          refine Pat.ok (C := ⟨X.K, cls⟩) p xs[i] x (wipeD Γ vs) Γ1 (L2.wipe σ vs) mw r' hbd _ fun σ2 m2 _ kp => ⟨?_, Γ1, S, ρ, G', m2, ?_⟩
          · rw [wipe_eq kp.1 fun j hj => kp.2 j fun h => hj (hv j h), wipe_eq (L2.wipe_length σ vs) fun j hj => wipe_out2 hj]
          · cases zt : τ Γ1 S with
            | exc x2 S2 => rw [zt] at eqn; rw [eqn] at q; exact q.elim
            | stuck => rw [zt] at eqn; rw [eqn] at q; exact q.elim
            | ok k S2 =>
              rw [zt] at eqn
              simp only [nox_ok, Res.bind_ok] at eqn
              intro kv ρ2 G2 H2 mm2 nn2 rk
              have ek : k = kv := rk
              subst ek
              have nnH : Nx ρ G H ρ2 G2 H2 := n'.trans nn2
              have mg2 : Mem ⟨X.K, cls⟩ Γ S2 ρ2 G2 H2 σ := ms.step nnH mm2.toS
              have outρ : ∀ {ρ5 : List Addr} {G5 H5 : Hp}, Nx ρ G H ρ5 G5 H5 → D0 ∉ ρ5 := fun {ρ5 G5 H5} nn z => by
                rcases nn.fre _ z with z | z
                · exact pD' z
                · rw [hacc] at z; cases z
              have outG : ∀ {ρ5 : List Addr} {G5 H5 : Hp}, Nx ρ G H ρ5 G5 H5 → G5 D0 = none := fun {ρ5 G5 H5} nn => by
                cases e : G5 D0 with
                | none => rfl
                | some o => rcases nn.new _ _ e with z | z
                            · rw [gD'] at z; cases z
                            · rw [hacc] at z; cases z
              cases k with
              | false =>
                simp only [Bool.false_eq_true, if_false] at eqn
                exact iteF ⟨S2, ρ2, G2, us, acc, mg2, nnH.keep _ _ (fun _ z => nomatch z) hacc pD', hlen, Reps.mono nnH.ext nnH.pre _ _ racc, outρ nnH, outG nnH, nn.trans nnH, eqn⟩
              | true =>
                simp only [if_true] at eqn
                refine iteT ⟨Γ1, S2, ρ2, G2, mm2, ?_⟩
                cases zk : κ Γ1 S2 with
                | exc x3 S3 => rw [zk] at eqn; rw [eqn] at q; exact q.elim
                | stuck => rw [zk] at eqn; rw [eqn] at q; exact q.elim
                | ok dk S3 =>
                  rw [zk] at eqn
                  simp only [nox_ok, Res.bind_ok] at eqn
                  intro kv3 ρ3 G3 H3 mm3 nn3 rk3
                  refine ⟨Γ1, S3, ρ3, G3, mm3, ?_⟩
                  cases ze : ε Γ1 S3 with
                  | exc x3 S4 => rw [ze] at eqn; rw [eqn] at q; exact q.elim
                  | stuck => rw [ze] at eqn; rw [eqn] at q; exact q.elim
                  | ok d S4 =>
                    rw [ze] at eqn
                    simp only [nox_ok, Res.bind_ok] at eqn
                    intro dv ρ4 G4 H4 mm4 nn4 rd
                    have nn5 : Nx ρ G H ρ4 G4 H4 := (nnH.trans nn3).trans nn4
                    have hacc4 := nn5.keep _ (HO.dK _) (fun _ z => nomatch z) hacc pD'
                    have mg4 : Mem ⟨X.K, cls⟩ Γ S4 ρ4 G4 H4 σ := ms.step nn5 mm4.toS
                    have racc4 := Reps.mono nn5.ext nn5.pre _ _ racc
                    cases hq : keyD dk with
                    | none => rw [hq] at eqn; rw [eqn] at q; exact q.elim
                    | some qk =>
                      rw [hq] at eqn
                      simp only at eqn
                      split at eqn
                      · rename_i hsz
                        obtain ⟨us2, e1, e2, e3⟩ := put_zip rd racc4 hlen qk
                        refine ⟨_, qk, keyD_v hq (rk3.mono nn4.ext nn4.pre), hacc4, ?_, S4, ρ4, G4, us2, dPut acc.1 acc.2 qk d, mg4.aside (outG nn5) (noTE_dK hacc4) (outρ nn5) hown, by rw [upd_same, e1], e2, e3, outρ nn5, outG nn5, (nn.trans nn5).aside hD, eqn⟩
                        rw [List.length_zip, hlen, racc4.length, Nat.min_self, ← racc4.length]; exact hsz
                      · rw [eqn] at q; exact q.elim
      · have e : i = xs.length := by omega
        subst e
        refine .inl ⟨sk.stop S ρ G H ms.toS sub1 nn.pre (old_of m1 nn), ?_⟩
        rw [List.drop_length, dcompD] at eqn
        rw [eqn] at q
        simp only [Res.bind_ok] at q
        exact q _ ρ G H ms (n1.trans nn) ⟨D0, rfl, pD', n1.live _ hD, gD', us, hacc, hlen, racc⟩
theorem df_dcomp {kx vx tg iter : Expr} {ifs : List Expr} {scope : Scope} {own : List (Str × Nat)} {pos : Pos} {ι : Da} {p : Pat} {τ : Dt} {κ ε : De} (hc : X.calm = true) (hN : X.N.Nodup) (hi : DI X cls W tg iter ι) (ok : BlkOk X.N X.env.scope scope own) (hv : ∀ i ∈ p.vars, i ∈ own.map (·.2))
    (hg : ∀ (s : Shared) (H : Hp) (C : Addr) (cl : List (Str × Addr)) (fp : List Addr), PG (X.blk s H scope (compEnvC scope cl C X.env) fp) tg (p.g X.K)) (ht : ∀ (s : Shared) (H : Hp) (C : Addr) (cl : List (Str × Addr)) (fp : List Addr), DTs (X.blk s H scope (compEnvC scope cl C X.env) fp) cls ifs τ)
    (hk : ∀ (s : Shared) (H : Hp) (C : Addr) (cl : List (Str × Addr)) (fp : List Addr), DE (X.blk s H scope (compEnvC scope cl C X.env) fp) cls W0 kx κ)
    (he : ∀ (s : Shared) (H : Hp) (C : Addr) (cl : List (Str × Addr)) (fp : List Addr), DE (X.blk s H scope (compEnvC scope cl C X.env) fp) cls W0 vx ε) (hs : ∀ x, foldedSetIterable iter X.env x = pure x := by intro _; rfl) :
    DF X cls W (.DictComp kx vx [⟨tg, iter, ifs, 0⟩] scope pos) (eDComp ι p (own.map (·.2)) τ κ ε) :=
  PE.weak (pe_dc (tt := tT ⟨X.K, cls⟩ W0 τ) (tk := tE ⟨X.K, cls⟩ W0 (RS ⟨X.K, cls⟩) κ) (tv := tE ⟨X.K, cls⟩ W0 (RS ⟨X.K, cls⟩) ε) hc hN hi ok hg ht hk he hs) fun σ H Q h => x_dcomp hv h
end
end DL

namespace DL
open PySem PySem.Spec PyProof.Rows L2
theorem RoomG.u1 {k : Nat} {A : Around} (r : RoomG k A) : A.units + 1 < cLine := by have := r.units; omega
theorem errBody {prog : Program} {K : PySem.W.Frag} {qual : Str} {st : Stmt} {C D fI cc cda : Addr} {par fld : Str} (tx : ErrSt st par fld)
    {nm q : Str} {N : Addr} {bs bm : List Value} {sn : List Str} {sub : List Value} {ab : Bool} {col : Option Bool} {dd : Option Addr} {k0 k1 k2 k3 k5 : Option Value}
    (cls : K.lookup C = some (excClassObj nm q C N bs bm true sn sub ab col dd k0 k1 k2 k3 k5 "ValueError.__new__")) (rv : PySem.HandSPX.refsVE bm = true)
    (sa : PySem.W.findIn K (.ref C) "__setattr__" = some (some (.builtin "object.__setattr__"))) (noN : PySem.W.findIn K (.ref C) fld = some none) (iC : PySem.W.findIn K (.ref C) "__init__" = some (some (.ref fI))) (tC : PySem.W.typeIn K (.ref fI) = some (.type "function"))
    (kC : PySem.W.keepIn K (.ref C) = true) (exC : PySem.W.subIn K (.ref C) (.type "BaseException") = some true) (veC : PySem.W.subIn K (.ref C) (.type "ValueError") = some true) (tyC : PySem.W.typeIn K (.ref C) = some (.type "type"))
    (sup : PySem.W.ks_superIn K C D "__init__" = some (some (.builtin "ValueError.__init__"))) (mCD : PySem.W.mroIn K C (.ref D) = some true) (clD : PySem.W.isClsIn K D = true)
    {cl : Value} {cld : Option Addr} {csl : Array (Option Value)} (cell : K.lookup cc = some ⟨cl, cld, .cell (some (.ref D)), csl⟩)
    {ccl : Value} {cdd : Option Addr} {vs : Array Value} {ccs : Array (Option Value)} {file : Str} {tf : Tok} (code : K.lookup cda = some ⟨ccl, cdd, .fields vs, ccs⟩) (v2 : vs[2]? = some (.str file tf)) (hfile : ((prog.main.file : Str) == file) = true)
    (thp : PySem.W.nsIn K cStatics "thirdparty.any" = some none) (top : (prog.main.scope.names.lookup ("super" : Str)).isSome = false)
    {oc : Value} {od : Option Addr} {kV doc pm : Value} {an : Option Addr} {ct : Value} {osl : Array (Option Value)}
    (fn : K.lookup fI = some ⟨oc, od, .func (PySem.W.ksFn "__init__" qual (defArgs st) (defBody st) (defScope st) .none kV doc pm an (.ref cda) ct cc), osl⟩) (cod : PySem.W.codeIn K (.ref cda) qual = true)
    (bd : ∀ (s : Shared) (u v : Value), BindsTo s (PySem.W.ksFn "__init__" qual (defArgs st) (defBody st) (defScope st) .none kV doc pm an (.ref cda) ct cc) ⟨[u, v], []⟩ [("self", u), (par, v)]) :
    ErrTxt prog K qual st C D fI cc cda par fld :=
  ⟨tx, ⟨nm, q, N, bs, bm, sn, sub, ab, col, dd, k0, k1, k2, k3, k5, cls, rv⟩, sa, noN, iC, tC, kC, exC, veC, tyC, sup, mCD, Option.isSome_iff_exists.mp clD, ⟨cl, cld, csl, cell⟩, ⟨ccl, cdd, vs, ccs, file, tf, code, v2, hfile⟩, thp, top, ⟨oc, od, kV, doc, pm, an, ct, osl, fn, cod, bd⟩⟩
end DL

namespace DL
open PySem PySem.Spec PyProof.Rows L2
section
variable {C : Cn} {X : Cx} {cls : Nat → Addr} {W : WX} {a b c e : Expr} {δa δb δc : De} {pos p apos cpos : Pos}
/-! ### a ≤ b < c -/
theorem de_chain2 (ha : DO X cls W a δa) (hb : DO X cls W b δb) (hc : DO X cls W c δc) (hm : lastMarks [.LtE, .Lt] [b, c] = false := by with_unfolding_all rfl) : DE X cls W (.Compare a [.LtE, .Lt] [b, c] pos) (eChain oLe oLt δa δb δc) :=
  PE.weak (pe_chain or_le or_lt ha hb hc hm) fun _ _ _ h => x_chain ok_ord ok_ord h
theorem dt_chain2 (ha : DO X cls W a δa) (hb : DO X cls W b δb) (hc : DO X cls W c δc) (hm : lastMarks [.LtE, .Lt] [b, c] = false := by with_unfolding_all rfl) : DT X cls W (.Compare a [.LtE, .Lt] [b, c] pos) (tB (eChain oLe oLt δa δb δc)) :=
  PT.weak (pt_chain or_le or_lt ha hb hc hm) fun σ H Q ⟨Γ, S, ρ, G, m, p⟩ => by
    refine x_chain (W := W) (cls := cls) ok_ord ok_ord ⟨Γ, S, ρ, G, m, (Post.seq back_RB p).mono fun v H1 ⟨d, S1, ρ1, G1, m1, n1, r1, p1⟩ => ?_⟩
    obtain ⟨k, hk, p2⟩ := ofO_post p1
    cases d <;> try cases hk
    exact ⟨k, rep_bl.mp r1, p2.at m1 rfl⟩
/-! ### dict(pairs) -/
def pairsD : List D → Option (List (Key × D))
  | [] => some []
  | .tup [k, x] :: r => (keyD k).bind fun q => (pairsD r).map fun l => (q, x) :: l
  | _ => none
def mergeD (acc : List Key × List D) : List (Key × D) → List Key × List D
  | [] => acc
  | kx :: r => mergeD (dPut acc.1 acc.2 kx.1 kx.2) r
def dDict : D → Option D
  | .lst xs => (pairsD xs).map fun l => .dct (mergeD ([], []) l).1 (mergeD ([], []) l).2
  | _ => none
theorem pairs_rep {ρ : List Addr} {G H : Hp} (s : SubH C G H) : ∀ {xs : List D} {vs : List V} {l : List (Key × D)}, Reps C ρ G xs vs → pairsD xs = some l →
    ∃ (ps : List Addr) (us : List V), vs = ps.map V.ref ∧ Paired (fun p (kv : Key × V) => SqT C.K H p [kV kv.1, kv.2]) ps ((l.map Prod.fst).zip us) ∧ Reps C ρ G (l.map Prod.snd) us
  | [], _, l, h, e => by
    rw [pairsD] at e; cases e
    rw [h.inv0]
    exact ⟨[], [], rfl, Paired.nil, Reps.nil⟩
  | x :: r, _, l, h, e => by
    obtain ⟨v, vs, rfl, h1, h2⟩ := h.inv
    unfold pairsD at e
    split at e
    · cases ‹_ = []›
    · rename_i k y r' hr
      cases hr
      cases q : keyD k with
      | none => rw [q] at e; cases e
      | some kk =>
        rw [q] at e
        cases q2 : pairsD r with
        | none => rw [Option.bind_some, q2] at e; cases e
        | some l' =>
          rw [Option.bind_some, q2] at e; cases e
          obtain ⟨ps, us, rfl, pr, rr⟩ := pairs_rep s h2 q2
          obtain ⟨a, ws, rfl, t, rw'⟩ := rep_tup.mp h1
          obtain ⟨w1, ws1, rfl, g1, g2⟩ := rw'.inv
          obtain ⟨w2, ws2, rfl, g3, g4⟩ := g2.inv
          have := g4.inv0
          subst this
          have ek := keyD_v q g1
          subst ek
          exact ⟨a :: ps, w2 :: us, rfl, .cons (s.sqT t) pr, .cons g3 rr⟩
    · cases e
theorem merge_rep {ρ : List Addr} {G : Hp} : ∀ {l : List (Key × D)} {us : List V} {ks : List Key} {xs : List D} {vs : List V}, Reps C ρ G (l.map Prod.snd) us → ks.length = xs.length → Reps C ρ G xs vs →
    ∃ ws, mergeK (ks.zip vs) ((l.map Prod.fst).zip us) = (mergeD (ks, xs) l).1.zip ws ∧ (mergeD (ks, xs) l).1.length = (mergeD (ks, xs) l).2.length ∧ Reps C ρ G (mergeD (ks, xs) l).2 ws
  | [], us, ks, xs, vs, h, hl, r => ⟨vs, rfl, hl, r⟩
  | (k, x) :: l, us, ks, xs, vs, h, hl, r => by
    obtain ⟨u, us', rfl, h1, h2⟩ := Reps.inv (show Reps C ρ G (x :: l.map Prod.snd) us from h)
    obtain ⟨ws, e1, e2, e3⟩ := put_zip h1 r hl k
    obtain ⟨ws2, e4, e5, e6⟩ := merge_rep (l := l) (us := us') (ks := (dPut ks xs k x).1) (xs := (dPut ks xs k x).2) h2 e2 e3
    refine ⟨ws2, ?_, e5, e6⟩
    rw [← e1] at e4
    exact e4
theorem rc_dict : RC1 C (RF C) (fun xs H Q => ∃ (a : Addr) (ps : List Addr) (kvs : List (Key × V)), xs = [.ref a] ∧ SqL C.K H a (ps.map V.ref) ∧ Paired (fun p kv => SqT C.K H p [kV kv.1, kv.2]) ps kvs ∧
    ∀ p, H p = none → Q (.ref p) (upd H p (.dK (mergeK [] kvs)))) dDict := fun S ρ G H x d dx Q m rx e q => by
  cases dx <;> try cases e
  rename_i xs
  obtain ⟨a, vs, rfl, h1, r1⟩ := rx
  simp only [dDict] at e
  cases k : pairsD xs with
  | none => rw [k] at e; cases e
  | some l =>
    rw [k] at e; cases e
    obtain ⟨ps, us, rfl, pr, rr⟩ := pairs_rep m.sub r1 k
    obtain ⟨ws, e1, e2, e3⟩ := merge_rep (C := C) (ks := []) (xs := []) rr rfl Reps.nil
    refine ⟨a, ps, _, rfl, SqL.of h1, pr, fun p hp => ?_⟩
    obtain ⟨m', n', np, gp⟩ := m.new (o := .dK (mergeK [] ((l.map Prod.fst).zip us))) hp
    refine q (.ref p) ρ G _ m' n' ⟨p, rfl, np, hp, gp, ws, ?_, e2, e3⟩
    rw [upd_same]
    have e1 : mergeK [] ((l.map Prod.fst).zip us) = (mergeD ([], []) l).1.zip ws := e1
    rw [e1]
theorem df_dict (hg : Gl X "dict") (hm : X.mg "dict" = none) (hc : X.calm = true) (ha : DO X cls W a δa) (he : starEach [a] X.env = (false, eval a X.env) :: starEach [] X.env := by rfl) (hpl : (backTo pos (starEach [] X.env)).any (·.1) = false := by rfl) : DF X cls W (.Call (.Name "dict" p) [a] [] pos) (eUn dDict δa) :=
  x_c1 back_RF (pe_callTy (call_dictP hc) hg hm (by decide +kernel) (da1 ha he) (by decide) (by decide) he hpl) rc_dict
/-! ### d.get(k) -/
def dGet1 (d k : D) : Option D := match d, keyD k with
  | .dct ks xs, some q => some ((dGet ks xs q).getD .non)
  | _, _ => none
def eGet1 (a b : De) : De := fun Γ S => (a Γ S).bind fun x S1 => if isDct (deref S1 x) = true then (b Γ S1).bind fun y S2 => ofO (dGet1 (deref S2 x) y) S2 else .stuck
theorem de_dget1 (hu : X.A.units + 1 < cLine) (ha : DO X cls W a δa) (hb : DE X cls W b δb) (m : M1 X a "get" apos b cpos) : DE X cls W (.Call (.Attribute a "get" apos) [b] [] cpos) (eGet1 δa δb) :=
  PE.weak (pe_dget1 hu ha hb m) fun σ H Q ⟨Γ, S, ρ, G, m, p⟩ => by
    refine ⟨Γ, S, ρ, G, m, (Post.seq back_RS p).mono fun x H1 ⟨dx, S1, ρ1, G1, m1, n1, r1, p1⟩ => ?_⟩
    split at p1
    · rename_i hd
      obtain ⟨ad, rfl, isd⟩ := isDct_rt hd (m1.read r1)
      refine ⟨ad, rfl, isd, Γ, S1, ρ1, G1, m1, (Post.seq back_RS p1).mono fun y H2 ⟨dy, S2, ρ2, G2, m2, n2, r2, p2⟩ => ?_⟩
      obtain ⟨d, hd3, p4⟩ := ofO_post p2
      have rt3 := m2.read (RO.step (H1 := H2) n2 r1)
      unfold dGet1 at hd3
      split at hd3
      · rename_i ks xs q e1 e2
        rw [e1] at rt3
        obtain ⟨a3, vs, e3, h3, hl, rr⟩ := rt3
        cases e3
        obtain ⟨o, g, k⟩ := dget_rt h3 hl rr q
        have ey := keyD_v e2 r2
        subst ey
        refine ⟨o, g, ?_⟩
        cases z2 : dGet ks xs q with
        | some d2 =>
          rw [z2] at k hd3
          obtain ⟨v, rfl, rv⟩ := k
          cases hd3
          exact p4.at m2 rv
        | none =>
          rw [z2] at k hd3
          subst k
          cases hd3
          exact p4.at m2 (rep_non.mpr rfl)
      · cases hd3
    · exact p1.elim
end
/-! ### defs that run while an error is handled, and raise nothing -/
structure RoomX (k : Nat) (A : Around) : Prop where
  dp : A.depth + 3 * k + 5 < recursionLimit
  un : A.units + 16 * k + 200 < cLine
  gd : A.guards = some []
theorem RoomX.units {k : Nat} {A : Around} (r : RoomX k A) : A.units + 64 < cLine := by have := r.un; omega
theorem RoomX.u1 {k : Nat} {A : Around} (r : RoomX k A) : A.units + 1 < cLine := by have := r.un; omega
theorem RoomX.deeper {k : Nat} {A : Around} (r : RoomX (k + 1) A) (env : Env) : RoomX k (A.deeper env) :=
  ⟨by have := r.dp; show A.depth + 1 + 3 * k + 5 < _; omega, by have := r.un; show A.units + 3 + 16 * k + 200 < _; omega, r.gd⟩
theorem RoomX.less {j k : Nat} {A : Around} (r : RoomX k A) (h : j ≤ k) : RoomX j A := ⟨by have := r.dp; omega, by have := r.un; omega, r.gd⟩
theorem RoomG.x {k : Nat} {A : Around} (r : RoomG k A) : RoomX k A := ⟨r.dp, r.un, r.gd⟩
theorem RoomG.xm {k : Nat} {A : Around} (r : RoomG k A) (o : Option Value) : RoomX k (A.mark o) := ⟨r.dp, r.un, r.gd⟩
theorem RoomX.x {k : Nat} {A : Around} (r : RoomX k A) : RoomX k A := r
structure FnX (P : Program) (w : World) (K : PySem.W.Frag) (mg : Str → Option Value) (base : Heap) (k : Nat) (f : Addr) (fd : FuncData) (ps : List Str) (sp : Sp) : Prop where
  lng : ∀ vs H Q E, sp vs H Q E → vs.length = ps.length
  goes : ∀ (A : Around) (o : List Env) (s : Shared) (H : Hp) (ar : Args) (us : List Value) (vs : List V) (Q : VK) (E : XK), RoomX k A → Env0 P w K mg base A o s H → BindsTo s fd ar (ps.zip us) → Vals vs us → sp vs H Q E →
    codeAny (model P w) A (.call (.ref f) ar) (CR (L2.CX P w) o P w H s Q E) s
/-- the context of such a def's body -/
def cxX (CX : CXT) (P : Program) (w : World) (K : PySem.W.Frag) (mg : Str → Option Value) (base : Heap) (N : List Str) (qual : Str) (scope : Scope) (f : Addr) (cd : Value) (A : Around) (outer : List Env) (s : Shared) (H : Hp) (E : XK) : Cx :=
  { cxOf CX P w K mg base N qual scope f cd A outer s H E with calm := false }
section
variable {P : Program} {w : World} {K : PySem.W.Frag} {mg : Str → Option Value} {base : Heap} {cls : Nat → Addr}
theorem fnX_stuck {k : Nat} {f : Addr} {fd : FuncData} {ps : List Str} {C : Cn} {F : List D → List D → Res D} (h : ∀ ds S, F ds S = .stuck) : FnX P w K mg base k f fd ps (spD C ps.length F) := by
  have no : ∀ vs H Q E, ¬ spD C ps.length F vs H Q E := fun vs H Q E h' => by
    obtain ⟨S, ρ, G, ds, _, _, _, z⟩ := h'
    rw [h] at z; exact z
  exact ⟨fun vs H Q E h => absurd h (no vs H Q E), fun A o s H ar us vs Q E _ _ _ _ h => absurd h (no vs H Q E)⟩
theorem start_x {CX : CXT} {N ps : List Str} {qual : Str} {scope : Scope} {f : Addr} {cd : Value} {A : Around} {outer : List Env} {s s1 : Shared} {H : Hp} {E : XK} {us : List Value} {vs : List V}
    (S : FnScope N ps scope) (e0 : Env0 P w K mg base A outer s H) (hl : vs.length = ps.length) (r : Vals vs us)
    (x : InCallC s s.heap.objs.size (bindL (envOfC qual scope s.heap.objs.size f cd).kindOf (ps.zip us) fun _ => none) (cellsFrom (s.heap.objs.size + 1) scope.names []) (bindC (envOfC qual scope s.heap.objs.size f cd).kindOf (ps.zip us) fun _ => none) s1) :
    Inv (cxX CX P w K mg base N qual scope f cd A outer s H E) [] (L2.start N vs) H s1 := by
  have e1 : Env0 P w K mg base { A with handled := none } outer s H := ⟨e0.frames, e0.mod, e0.bs, e0.bsz, e0.funs, e0.frf, e0.hok, e0.bare⟩
  have J := inv_start (CX := CX) (E := E) S (A := { A with handled := none }) rfl e1 hl r x
  exact ⟨⟨J.ok.mod, J.ok.kind, J.ok.glob, J.ok.blt, J.ok.above, J.ok.inj, J.ok.has, J.ok.cab, (fun z => Bool.noConfusion (show false = true from z)), J.ok.frames, J.ok.stk, J.ok.exf, J.ok.bs, J.ok.bsz, J.ok.noex, J.ok.exfs, J.ok.funs, J.ok.frf⟩,
    J.os, J.bare, J.base, J.loc, J.cell, J.free, J.freeC, J.pin, J.hok, J.len⟩
theorem defX_ok {x qual : Str} {st : Stmt} {f : Addr} {fd : FuncData} {N ps : List Str} {k : Nat} {δ : Ds} (F : Fun K x qual st f fd) (Sc : FnScope N ps (defScope st))
    (hbody : ∀ (cdv : Value) (A : Around) (outer : List Env) (s : Shared) (H : Hp) (E : XK), RoomX k (A.deeper (envOfC qual (defScope st) s.heap.objs.size f cdv)) →
      DSs (cxX (L2.CX P w) P w K mg base N qual (defScope st) f cdv A outer s H E) cls (fun c d _ H => E c d H) (defBody st) δ) : FnX P w K mg base (k + 1) f fd ps (spD ⟨K, cls⟩ ps.length (bodyRun N.length δ)) := by
  obtain ⟨oc, od, kV, doc, pm, an, cdv, ct, osl, rfl, lk, hcd⟩ := F.ex
  have ln : ∀ vs H Q E, spD ⟨K, cls⟩ ps.length (bodyRun N.length δ) vs H Q E → vs.length = ps.length := fun vs H Q E h => by obtain ⟨_, _, _, _, _, _, h, _⟩ := h; exact h
  refine ⟨ln, fun A o s0 H ar us vs Q E rm e0 bd rv h => ?_⟩
  have hl := ln _ _ _ _ h
  have KX : K.In s0.heap := e0.mod.kin.keeps fun b o e => (e0.bs b o e).1
  have lim : s0.heap.NoLimit := e0.mod.nolimit.keeps fun b o e => (e0.bs b o e).1
  have hkind : ∀ y ∈ ps.zip us, (defScope st).names.lookup y.1 = some .local ∨ ((defScope st).names.lookup y.1 = some .cell ∧ ((cellsFrom (s0.heap.objs.size + 1) (defScope st).names []).lookup y.1).isSome = true) := fun ⟨n, v⟩ hy => by
    rcases Sc.par n (List.of_mem_zip hy).1 with q | q
    · exact .inl q
    · exact .inr ⟨q, PySem.W.cellsFrom_some _ _ _ (.inl q)⟩
  refine codeAny_call_function (by have := rm.dp; omega) (KX _ _ lk) rfl Sc.co Sc.gen rfl (PySem.W.codeRec_of KX hcd) (bd _ _ _ _ ?_)
  refine wpAny_newFunctionEnv_cells Sc.kind hkind fun env he s1 xc => ?_
  subst he
  refine ⟨lim.keeps xc.toInCall.keep, codeAny_func ?_⟩
  have I : Inv (cxX (L2.CX P w) P w K mg base N qual (defScope st) f cdv A o s0 H E) [] (L2.start N vs) H s1 := start_x Sc e0 hl rv xc
  have hq : tS ⟨K, cls⟩ (fun c d _ H => E c d H) δ { nx := fun _ H' => Q .non H', rt := Q } (L2.start N vs) H := by
    obtain ⟨S, ρ, G, ds, m, r, hl, h⟩ := h
    refine ⟨⟨ρ, G, H, G, ρ, H⟩, _, S, ρ, G, ⟨start_mem m r, .refl, fun i d a h1 h2 => ?_, .refl, List.prefix_refl _, .refl⟩, ?_⟩
    · exfalso
      have hm := List.mem_of_getElem? h1
      rcases List.mem_append.mp hm with z | z
      · obtain ⟨_, _, e⟩ := List.mem_map.mp z; cases e
      · cases (List.eq_of_mem_replicate z)
    · unfold bodyRun at h
      cases q : δ (ds.map Sl.val ++ List.replicate (N.length - ds.length) Sl.non) S with
      | next Γ S' => rw [q] at h; exact fun ρ' G' H' σ' s' => h .non ρ' G' H' s'.mem.toS s'.nx (rep_non.mpr rfl)
      | ret d S' => rw [q] at h; exact fun v ρ' G' H' m' n' _ r' => h v ρ' G' H' m' n' r'
      | exc e Γ S' => rw [q] at h; exact fun c dx ρ' G' H' σ' s' er => h c dx ρ' G' H' s'.mem.toS s'.nx er
      | brk _ _ => rw [q] at h; exact h.elim
      | cont _ _ => rw [q] at h; exact h.elim
      | stuck => rw [q] at h; exact h.elim
  refine wpAny_mono ((hbody cdv A o s0 H E (rm.deeper _)).run [] s1 (L2.start N vs) H _ I hq) (fun fl s' hs => ?_) fun e s' hs => hs
  have fin : ∀ {σ' : L2.St} {H' : Hp} {v : V} {u : Value}, Inv (cxX (L2.CX P w) P w K mg base N qual (defScope st) f cdv A o s0 H E) [] σ' H' s' → L2.RelV v u → Q v H' → CE o P w H s0 Q u s' :=
    fun {σ' H' v u} J rv q => ⟨v, H', J.os, J.bare, J.base, J.hok, rv, q⟩
  cases fl with
  | ret u =>
    obtain ⟨v, σ', H', J, rv, q⟩ := hs
    exact fin J rv q
  | next =>
    obtain ⟨σ', H', J, q⟩ := hs
    exact fin (v := V.non) (u := Value.none) J rfl q
  | brk =>
    obtain ⟨_, _, _, q⟩ := hs
    exact False.elim q
  | cont =>
    obtain ⟨_, _, _, q⟩ := hs
    exact False.elim q
end
section
variable {X : Cx} {cls : Nat → Addr} {W : WX} {k : Nat} {f : Addr} {fd : FuncData} {ps : List Str} {x : Str} {p pos : Pos} {e a : Expr} {es : List Expr} {α : Da} {δa : De} {F : List D → List D → Res D} {sp : Sp}
theorem goesX {pins : List (Addr × Obj)} {σ : L2.St} {H : Hp} {s : Shared} {Q : VK} {E : XK} {us : List Value} {vs : List V} (Fn : FnX X.prog X.w X.K X.mg X.base k f fd ps sp) (rm : RoomX k X.A) (bd : Binds X.K fd ps []) (pa : PassesAt (L2.CX X.prog X.w) X σ E)
    (I : Inv X pins σ H s) (rv : Vals vs us) (h : sp vs H Q E) : wpAny (model X.prog X.w) X.A (call (.ref f) us) (EP X pins σ Q) X.xe s := by
  have b2 : BindsTo s fd ⟨us, []⟩ (ps.zip us) := by
    have z := bd s us I.kIn (by rw [List.append_nil, ← rv.length]; exact Fn.lng _ _ _ _ h)
    rwa [List.append_nil] at z
  refine wpAny_call (codeAny_mono (Fn.goes X.A X.stack s H ⟨us, []⟩ us vs Q E rm I.env0 b2 rv h) ?_)
  rintro (er | ⟨u⟩ | _ | _ | _) s2 hq
  all_goals first | exact pa pins H s er s2 I hq | exact I.after hq | exact hq.elim
theorem de_callX (Fn : FnX X.prog X.w X.K X.mg X.base k f fd ps (spD ⟨X.K, cls⟩ ps.length F)) (tk : Takes X W) (rm : RoomX k X.A) (hg : Gl X x) (hm : X.mg x = some (.ref f)) (hk : PySem.W.keepIn X.K (.ref f) = true) (bd : Binds X.K fd ps [])
    (ha : DA X cls W (e :: es) α) (hal : ALen α ps.length) (hdb : (x == ("__debug__" : Str)) = false := by decide) (he : starEach (e :: es) X.env = (false, eval e X.env) :: starEach es X.env := by rfl) (pl : (backTo pos (starEach es X.env)).any (·.1) = false := by rfl) :
    DE X cls W (.Call (.Name x p) (e :: es) [] pos) (eCall F α) := ⟨fun pins s σ H Q I h => by
  refine wpAny_Call_Name_kw (ld_glob I hg hm ?_ hdb)
  exact PySem.W.callWith_K (h₀ := X.base) I.ok.mod.kin hk (thn (ha.run pos pins s σ H _ I (exG tk hal h)) fun us s1 ⟨vs, H1, I1, rv, q⟩ => ⟨I1.kIn, goesX Fn rm bd (passAt tk σ) I1 rv q⟩) he pl⟩
theorem spD_re {K : PySem.W.Frag} {cls' : Nat → Addr} (hc : ∀ n, cls' (n + 3) = cls (n + 3)) {np : Nat} {vs : List V} {H : Hp} {Q : VK} {E : XK} (h : spD ⟨K, cls'⟩ np F vs H Q E) : spD ⟨K, cls⟩ np F vs H Q E := by
  obtain ⟨S, ρ, G, ds, m, r, hl, h⟩ := h
  have hc' : ∀ n, cls (n + 3) = cls' (n + 3) := fun n => (hc n).symm
  refine ⟨S, ρ, G, ds, Mem.re (C := ⟨K, cls'⟩) (C' := ⟨K, cls⟩) rfl hc' rfl m, Reps.re (C := ⟨K, cls'⟩) (C' := ⟨K, cls⟩) rfl hc' _ _ r, hl, ?_⟩
  split at h
  · exact fun v ρ' G' H' m' n' r' => h v ρ' G' H' (Mem.re (C := ⟨K, cls⟩) (C' := ⟨K, cls'⟩) rfl hc rfl m') n' (Rep.re (C := ⟨K, cls⟩) (C' := ⟨K, cls'⟩) rfl hc _ _ r')
  · refine fun c dx ρ' G' H' m' n' r' => h c dx ρ' G' H' (Mem.re (C := ⟨K, cls⟩) (C' := ⟨K, cls'⟩) rfl hc rfl m') n' ?_
    obtain ⟨e1, e2, e3⟩ := r'
    refine ⟨by rw [e1]; exact congrArg _ (hc' _), e2, fun z => ?_⟩
    obtain ⟨d, vs, q1, q2, q3, q4⟩ := e3 z
    exact ⟨d, vs, q1, q2, q3, Reps.re (C := ⟨K, cls⟩) (C' := ⟨K, cls'⟩) rfl hc _ _ q4⟩
  · exact h
theorem FnX.re {P : Program} {w : World} {K : PySem.W.Frag} {mg : Str → Option Value} {base : Heap} {cls' : Nat → Addr} {np : Nat} (Fn : FnX P w K mg base k f fd ps (spD ⟨K, cls⟩ np F)) (hc : ∀ n, cls' (n + 3) = cls (n + 3)) : FnX P w K mg base k f fd ps (spD ⟨K, cls'⟩ np F) :=
  ⟨fun vs H Q E h => Fn.lng vs H Q E (spD_re hc h), fun A o s H ar us vs Q E r e b v h => Fn.goes A o s H ar us vs Q E r e b v (spD_re hc h)⟩
/-! ### repr of anything -/
def dReprA (d : D) : Option D := match d with
  | .non => some (.str "None")
  | .bl b => some (.str (if b then "True" else "False"))
  | .int i => if i.natAbs.log2 < 1920 then some (.str (toString i)) else none
  | .str z => if (reprText z).length ≤ sizeLine then some (.str (reprText z)) else none
  | _ => dRepr d
def rReprG (K : PySem.W.Frag) : List V → Hp → VK → Prop := fun xs H Q => ∃ a q, xs = [.ref a] ∧ Dp K H (.ref a) q ∧ q.showable = true ∧ q.hasDict = false ∧ q.depth ≤ 180 ∧ q.shown.length ≤ sizeLine ∧ Q (.str q.shown) H
def rReprA (K : PySem.W.Frag) : List V → Hp → VK → Prop := fun xs H Q => (xs = [.non] ∧ Q (.str "None") H) ∨ (∃ b, xs = [.bl b] ∧ Q (.str (if b then "True" else "False")) H) ∨ (∃ i, xs = [.int i] ∧ i.natAbs.log2 < 1920 ∧ Q (.str (toString i)) H) ∨ (∃ z, xs = [.str z] ∧ (reprText z).length ≤ sizeLine ∧ Q (.str (reprText z)) H) ∨ rReprG K xs H Q
theorem call_reprA (hu : X.A.units + 190 < cLine) (gd : X.A.guards = some []) : CallR X (.builtin "repr") (rReprA X.K) := by
  intro pins s σ H xs us Q I r h
  rcases h with ⟨rfl, q⟩ | ⟨b, rfl, q⟩ | h | ⟨z, rfl, hz, q⟩ | h
  · obtain ⟨u, rfl, ru⟩ := vals1 r
    obtain rfl : u = Value.none := ru
    exact PySem.P.repr_of_none ⟨.str _, H, I.tok _, ⟨_, rfl⟩, q⟩
  · obtain ⟨u, rfl, ru⟩ := vals1 r
    obtain rfl : u = Value.bool b := ru
    exact PySem.P.repr_of_bool ⟨.str _, H, I.tok _, ⟨_, rfl⟩, q⟩
  · exact SkE.call_repr_int pins s σ H xs us Q I r h
  · obtain ⟨u, rfl, t, rfl⟩ := vals1 r
    exact PySem.P.repr_of_str ⟨.str _, H, I.tok _, ⟨_, rfl⟩, q⟩ hz
  · exact call_reprG hu gd pins s σ H xs us Q I r h
theorem rc_reprA {C : Cn} : RC1 C (RS C) (rReprA C.K) dReprA := fun S ρ G H x d dx Q m rx e q => by
  unfold dReprA at e
  split at e
  · cases e
    rw [rt_non] at rx
    subst rx
    exact .inl ⟨rfl, q _ _ _ _ m .refl (rep_str.mpr rfl)⟩
  · rename_i b
    cases e
    rw [rt_bl] at rx
    subst rx
    exact .inr (.inl ⟨b, rfl, q _ _ _ _ m .refl (rep_str.mpr rfl)⟩)
  · rename_i i
    split at e
    · rename_i hi
      cases e
      rw [rt_int] at rx
      subst rx
      exact .inr (.inr (.inl ⟨i, rfl, hi, q _ _ _ _ m .refl (rep_str.mpr rfl)⟩))
    · cases e
  · rename_i z
    split at e
    · rename_i hi
      cases e
      rw [rt_str] at rx
      subst rx
      exact .inr (.inr (.inr (.inl ⟨z, rfl, hi, q _ _ _ _ m .refl (rep_str.mpr rfl)⟩)))
    · cases e
  · exact .inr (.inr (.inr (.inr (rc_repr S ρ G H x d dx Q m rx e q))))
theorem de_reprA {k : Nat} (rm : RoomX k X.A) (hg : Gl X "repr") (hm : X.mg "repr" = none) (ha : DO X cls W a δa) (he : starEach [a] X.env = (false, eval a X.env) :: starEach [] X.env := by rfl) (hpl : (backTo pos (starEach [] X.env)).any (·.1) = false := by rfl) : DE X cls W (.Call (.Name "repr" p) [a] [] pos) (eUn dReprA δa) :=
  x_c1 back_RS (pe_callB (call_reprA (by have := rm.un; omega) rm.gd) hg hm (by decide +kernel) (da1 ha he) (by decide) (by decide) he hpl) rc_reprA
@[simp] theorem dReprA_lst (xs : List D) : dReprA (.lst xs) = dRepr (.lst xs) := Eq.trans rfl rfl
@[simp] theorem dReprA_tup (xs : List D) : dReprA (.tup xs) = dRepr (.tup xs) := Eq.trans rfl rfl
end
end DL

namespace DL
open PySem PySem.Spec PyProof.Rows L2
/-! ### a dict is locked while it is walked -/
section
variable {C : Cn} {W : WX} {en : Ent} {Γ : List Sl} {S : List D} {ρ ρ' : List Addr} {G G' H H' : Hp} {σ : L2.St} {d : Addr} {kvs : List (Key × V)} {od : Obj}
theorem noTE_frz {a : Addr} {o : Obj} {u : HO} (h : H a = some (.frz o u)) : NoTE (H a) := by rw [h]; exact ⟨fun _ z => (nomatch z), fun _ z => (nomatch z)⟩
theorem Mem.other (m : Mem C Γ S ρ G H σ) {o : HO} (gd : G d = some (.dK kvs)) (ho : EqK (.dK kvs) o) (ht : NoTE (H d)) : Mem C Γ S ρ G (upd H d o) σ where
  sub := ⟨fun b u h => by
    by_cases z : b = d
    · subst z; rw [gd] at h; cases h; exact ⟨o, upd_same, ho⟩
    · rw [upd_ne z]; exact m.sub.at_ b u h, fun i => (m.sub.tab i).upd ht⟩
  val := m.val
  own := fun i x h => by
    obtain ⟨b, e, r, g, n⟩ := m.own i x h
    exact ⟨b, e, r.at (fun z => by rw [z, gd] at g; cases g), g, n⟩
  inj := m.inj
  sto := fun i x h => by
    obtain ⟨b, e, r⟩ := m.sto i x h
    have g := m.stG b (List.mem_of_getElem? e)
    exact ⟨b, e, r.at (fun z => by rw [z, gd] at g; cases g)⟩
  stG := m.stG
  len := m.len
  nd := m.nd
  wid := m.wid
  xcp := m.xcp
theorem Mem.lock (m : Mem C Γ S ρ G H σ) (hd : H d = some (.dK kvs)) (gd : G d = some (.dK kvs)) : Mem C Γ S ρ G (upd H d (.frz od (.dK kvs))) σ := m.other gd (.inr ⟨kvs, od, rfl, rfl⟩) (noTE_dK hd)
theorem Mem.unlock (m : Mem C Γ S ρ G H σ) (hd : H d = some (.frz od (.dK kvs))) (gd : G d = some (.dK kvs)) : Mem C Γ S ρ G (upd H d (.dK kvs)) σ := m.other gd (.inl rfl) (noTE_frz hd)
theorem Nx.unlock {E E' : Hp} (n : Nx ρ G E' ρ' G' H') (hE : ∀ a, a ≠ d → E' a = E a) (h1 : E' d = none ↔ E d = none) (h2 : ∀ o, (∀ ps, o ≠ .tbl ps) → E d = some o → o = .dK kvs) : Nx ρ G E ρ' G' (upd H' d (.dK kvs)) where
  pre := n.pre
  ext := n.ext
  new := fun a o h => by
    rcases n.new a o h with z | z
    · exact .inl z
    · by_cases y : a = d
      · subst y; exact .inr (h1.mp z)
      · rw [hE a y] at z; exact .inr z
  keep := fun a o t h p => by
    by_cases y : a = d
    · subst y; rw [upd_same, h2 o t h]
    · rw [upd_ne y]; exact n.keep a o t (by rw [hE a y]; exact h) p
  live := fun a h => by
    by_cases y : a = d
    · subst y; rw [upd_same] at h; cases h
    · rw [upd_ne y] at h; have := n.live a h; rw [hE a y] at this; exact this
  fre := fun a h => by
    rcases n.fre a h with z | z
    · exact .inl z
    · by_cases y : a = d
      · subst y; exact .inr (h1.mp z)
      · rw [hE a y] at z; exact .inr z
theorem Nx.lock {E E' : Hp} (n : Nx ρ G E ρ' G' H) (hE : ∀ a, a ≠ d → E' a = E a) (h1 : E' d = none ↔ E d = none) (h2 : ∀ o, (∀ ps, o ≠ .tbl ps) → E' d = some o → o = .frz od (.dK kvs)) : Nx ρ G E' ρ' G' (upd H d (.frz od (.dK kvs))) where
  pre := n.pre
  ext := n.ext
  new := fun a o h => by
    rcases n.new a o h with z | z
    · exact .inl z
    · by_cases y : a = d
      · subst y; exact .inr (h1.mpr z)
      · exact .inr (by rw [hE a y]; exact z)
  keep := fun a o t h p => by
    by_cases y : a = d
    · subst y; rw [upd_same, h2 o t h]
    · rw [upd_ne y]; exact n.keep a o t (by rw [← hE a y]; exact h) p
  live := fun a h => by
    by_cases y : a = d
    · subst y; rw [upd_same] at h; cases h
    · rw [upd_ne y] at h; have := n.live a h; rw [hE a y]; exact this
  fre := fun a h => by
    rcases n.fre a h with z | z
    · exact .inl z
    · by_cases y : a = d
      · subst y; exact .inr (h1.mpr z)
      · exact .inr (by rw [hE a y]; exact z)
/-- the entry, as it is while d is locked -/
theorem ent_lock (s : SI C en Γ S ρ G H σ) (hd : H d = some (.dK kvs)) (gd : G d = some (.dK kvs)) (od : Obj) : ∃ en' : Ent, SI C en' Γ S ρ G (upd H d (.frz od (.dK kvs))) σ ∧
    (∀ Γ' S' ρ' G' H' σ', SI C en' Γ' S' ρ' G' H' σ' → H' d = some (.frz od (.dK kvs)) ∧ SI C en Γ' S' ρ' G' (upd H' d (.dK kvs)) σ') ∧
    (∀ S' ρ' G' H', MemS C S' ρ' G' H' → Nx en'.ρ en'.G en'.H ρ' G' H' → Sub en'.B G' ∧ Old en'.F H' → H' d = some (.frz od (.dK kvs)) ∧ MemS C S' ρ' G' (upd H' d (.dK kvs)) ∧ Nx en.ρ en.G en.H ρ' G' (upd H' d (.dK kvs)) ∧ Sub en.B G' ∧ Old en.F (upd H' d (.dK kvs))) := by
  have dρ : d ∉ ρ := fun z => by have := s.mem.stG d z; rw [gd] at this; cases this
  have dρ0 : d ∉ en.ρ := fun z => dρ (s.nx.pre.subset z)
  have e4 : ∀ o, (∀ ps, o ≠ .tbl ps) → en.H d = some o → o = .dK kvs := fun o t h => by
    have := s.nx.keep d o t h dρ0
    rw [hd] at this; cases this; rfl
  obtain ⟨EH, e1, e2, e3⟩ : ∃ EH : Hp, (∀ a, a ≠ d → EH a = en.H a) ∧ (EH d = none ↔ en.H d = none) ∧ ∀ o, (∀ ps, o ≠ .tbl ps) → EH d = some o → o = .frz od (.dK kvs) := by
    cases q : en.H d with
    | none => exact ⟨en.H, fun _ _ => rfl, ⟨fun _ => rfl, fun _ => q⟩, fun o _ h => by rw [q] at h; cases h⟩
    | some o =>
      by_cases t : ∃ ps, o = .tbl ps
      · obtain ⟨ps, rfl⟩ := t
        exact ⟨en.H, fun _ _ => rfl, ⟨fun h => (by rw [q] at h; cases h), fun h => (by cases h)⟩, fun o t h => by rw [q] at h; cases h; exact absurd rfl (t ps)⟩
      · exact ⟨upd en.H d (.frz od (.dK kvs)), fun a h => upd_ne h, ⟨fun h => (by rw [upd_same] at h; cases h), fun h => (by cases h)⟩, fun o _ h => by rw [upd_same] at h; cases h; rfl⟩
  have oldb : ∀ H', Old (upd H d (.frz od (.dK kvs))) H' → Old en.F (upd H' d (.dK kvs)) := fun H' o a ob u h => by
    have h3 := s.old a ob u h
    have y : a ≠ d := fun z => by rw [z, hd] at h3; cases h3
    rw [upd_ne y]
    exact o a ob u (by rw [upd_ne y]; exact h3)
  refine ⟨⟨en.ρ, en.G, EH, G, ρ, upd H d (.frz od (.dK kvs))⟩, ⟨s.mem.lock hd gd, s.nx.lock e1 e2 e3, fun i x a h1 h2 => ?_, .refl, List.prefix_refl _, .refl⟩, fun Γ' S' ρ' G' H' σ' s' => ?_, fun S' ρ' G' H' m n o => ?_⟩
  · have := s.frs i x a h1 h2
    by_cases y : a = d
    · subst y; exact e2.mpr this
    · show EH a = none; rw [e1 a y]; exact this
  · have hd' : H' d = some (.frz od (.dK kvs)) := s'.old d od _ upd_same
    have gd' : G' d = some (.dK kvs) := s'.base _ _ gd
    exact ⟨hd', s'.mem.unlock hd' gd', s'.nx.unlock e1 e2 e4, fun i x a h1 h2 => by
      have := s'.frs i x a h1 h2
      by_cases y : a = d
      · subst y; exact e2.mp this
      · rw [← e1 a y]; exact this, s.base.trans s'.base, s.basr.trans s'.basr, oldb _ s'.old⟩
  · have hd' : H' d = some (.frz od (.dK kvs)) := o.2 d od _ upd_same
    have gd' : G' d = some (.dK kvs) := o.1 _ _ gd
    exact ⟨hd', m.unlock hd' gd', n.unlock e1 e2 e4, s.base.trans o.1, oldb _ o.2⟩
theorem post_lock {Dn : Ends} {u : HO} {en' : Ent} (hu : u = .dK kvs)
    (b1 : ∀ Γ' S' ρ' G' H' σ', SI C en' Γ' S' ρ' G' H' σ' → H' d = some (.frz od (.dK kvs)) ∧ SI C en Γ' S' ρ' G' (upd H' d (.dK kvs)) σ')
    (b2 : ∀ S' ρ' G' H', MemS C S' ρ' G' H' → Nx en'.ρ en'.G en'.H ρ' G' H' → Sub en'.B G' ∧ Old en'.F H' → H' d = some (.frz od (.dK kvs)) ∧ MemS C S' ρ' G' (upd H' d (.dK kvs)) ∧ Nx en.ρ en.G en.H ρ' G' (upd H' d (.dK kvs)) ∧ Sub en.B G' ∧ Old en.F (upd H' d (.dK kvs))) :
    ∀ {o : Out}, (∀ e Γ S, o ≠ .exc e Γ S) → PostS C W en Dn o → PostS C W en' ⟨fun σ' H' => H' d = some (.frz od u) ∧ Dn.nx σ' (upd H' d u), fun v H' => H' d = some (.frz od u) ∧ Dn.rt v (upd H' d u), fun σ' H' => H' d = some (.frz od u) ∧ Dn.bk σ' (upd H' d u), fun σ' H' => H' d = some (.frz od u) ∧ Dn.ct σ' (upd H' d u)⟩ o
  | .next Γ S, _, q => fun ρ G H σ s => by subst hu; obtain ⟨x, y⟩ := b1 _ _ _ _ _ _ s; exact ⟨x, q ρ G _ σ y⟩
  | .brk Γ S, _, q => fun ρ G H σ s => by subst hu; obtain ⟨x, y⟩ := b1 _ _ _ _ _ _ s; exact ⟨x, q ρ G _ σ y⟩
  | .cont Γ S, _, q => fun ρ G H σ s => by subst hu; obtain ⟨x, y⟩ := b1 _ _ _ _ _ _ s; exact ⟨x, q ρ G _ σ y⟩
  | .ret d S, _, q => fun v ρ G H m n o r => by subst hu; obtain ⟨x, y, z, t, w⟩ := b2 _ _ _ _ m n o; exact ⟨x, q v ρ G _ y z ⟨t, w⟩ r⟩
  | .exc e Γ S, h, _ => absurd rfl (h e Γ S)
  | .stuck, _, q => q
end
end DL

namespace DL
open PySem PySem.Spec PyProof.Rows L2
/-! ### for x in d -/
def iK (i : Nat) : Da := fun Γ S => match Γ[i]? with
  | some (.val (.dct ks _)) => .ok (ks.map keyK) S
  | _ => .stuck
def Lk (i : Nat) (σ : L2.St) (H : Hp) : Prop := ∃ d od kvs, σ[i]? = some (some (V.ref d)) ∧ H d = some (.frz od (.dK kvs))
theorem PS.or {X : Cx} {e : Stmt} {t t' : TS} (h : PS X e t) (h' : PS X e t') : PS X e (fun D σ H => t D σ H ∨ t' D σ H) := ⟨fun pins s σ H D I k => by
  rcases k with k | k
  · exact h.run pins s σ H D I k
  · exact h'.run pins s σ H D I k⟩
section
variable {X : Cx} {cls : Nat → Addr} {W : WX} {tg : Expr} {x : Str} {p0 pos : Pos}
theorem src_keys {C : Cn} {d : Addr} {od : Obj} {kvs : List (Key × V)} {ks : List Key} {vs : List V} {ρ0 : List Addr} {G0 H0 : Hp} (h : H0 d = some (.frz od (.dK kvs))) (e : kvs = ks.zip vs) (l : ks.length = vs.length) : SrcOk C (Itk d od kvs) (ks.map keyK) ρ0 G0 H0 where
  go := fun S ρ G H i m s _ o hi => ⟨o d od _ h, by rw [e, List.length_zip, ← l, Nat.min_self]; simpa using hi⟩
  yld := fun S ρ G H i x H' d2 m s pr o hd y => by
    obtain ⟨rfl, k, v, hk, rfl⟩ := y
    rw [e, List.getElem?_zip_eq_some] at hk
    rw [List.getElem?_map, hk.1] at hd
    cases hd
    exact ⟨G, m, .refl, keyK_rep k⟩
  stop := fun S ρ G H m s _ o => ⟨o d od _ h, by rw [e, List.length_zip, ← l, Nat.min_self]; simp⟩
theorem pi_k (i : Nat) (hN : X.N[i]? = some x := by rfl) (hv : Vis X.env.scope x := by first | exact Or.inl rfl | exact Or.inr (Or.inl rfl) | exact Or.inr (Or.inr rfl)) (hd : (x == ("__debug__" : Str)) = false := by decide)
    (hcd : (x == ("__classdict__" : Str)) = false := by decide) : PI X tg (.Name x p0) (fun σ H R => Lk i σ H ∧ tI ⟨X.K, cls⟩ W (iK i) σ H R) := PI.weak (pi_keys (pv i hN hv hd hcd)) fun σ H R ⟨⟨d, od, kvs, e, hl⟩, Γ, S, ρ, G, m, q⟩ => by
  unfold iK at q
  cases z : Γ[i]? with
  | none => rw [z] at q; exact q.elim
  | some sl =>
    rw [z] at q
    cases sl with
    | val dv =>
      cases dv with
      | dct ks xs =>
        obtain ⟨v, e1, r⟩ := m.val i _ z
        rw [e] at e1; cases e1
        rw [Rep] at r
        obtain ⟨d', vs, e2, g, hl2, rr⟩ := r
        cases e2
        have hk := m.sub.dk g
        rcases hk with hk | ⟨ob, hk⟩
        · rw [hl] at hk; cases hk
        · rw [hl] at hk; cases hk
          refine ⟨_, e, d, od, rfl, .inl ⟨_, hl, q _ ρ G H m .refl (src_keys hl rfl (hl2.trans rr.length))⟩⟩
      | _ => exact q.elim
    | _ => exact q.elim
/-- a loop's core: what is walked is had by a reading of the kind of DI's -/
theorem for_core {ι : Da} {p : Pat} {kl : List Nat} {β : Ds} {en : Ent} {Γ : List Sl} {S : List D} {ρ : List Addr} {G H : Hp} {σ : L2.St} {Dn : Ends} (s : SI ⟨X.K, cls⟩ en Γ S ρ G H σ) (q : PostS ⟨X.K, cls⟩ W en Dn (sFor ι p kl β Γ S)) :
    tFor (tI ⟨X.K, cls⟩ W ι) (p.g X.K) (tS ⟨X.K, cls⟩ W β) Dn σ H := ⟨Γ, S, ρ, G, s.mem, by
  unfold sFor at q
  cases z : ι Γ S with
  | exc x S1 => rw [z] at q; exact fun cls' dx ρ1 G1 H1 m n c => q cls' dx ρ1 G1 H1 σ (s.step m n) c
  | stuck => rw [z] at q; exact q.elim
  | ok xs S1 =>
    rw [z] at q
    simp only [after_ok] at q
    intro J ρ1 G1 H1 m1 n1 sk
    have s1 := s.step m1 n1
    have q1 := q.rebase (B := G1) (R := ρ1) (F := H1) s1.base s1.basr s1.old
    refine ⟨fun i m σ H => m = xs.length - i ∧ i ≤ xs.length ∧ ∃ Γ S ρ G, SI ⟨X.K, cls⟩ { en with B := G1, R := ρ1, F := H1 } Γ S ρ G H σ ∧ PostS ⟨X.K, cls⟩ W { en with B := G1, R := ρ1, F := H1 } Dn (forD p kl β (xs.drop i) Γ S),
      ⟨xs.length, by omega, Nat.zero_le _, Γ, S1, ρ1, G1, s1.to, q1⟩, fun i m σ H ⟨hm, hi, Γ, S, ρ, G, s, q⟩ => ?_⟩
    by_cases hlt : i < xs.length
    · rw [List.drop_eq_getElem_cons hlt] at q
      refine .inr ⟨sk.go S ρ G H i s.mem.toS s.base s.basr s.old hlt, fun σ' H' => ∃ Γ S ρ G, SI ⟨X.K, cls⟩ { en with B := G1, R := ρ1, F := H1 } Γ S ρ G H' σ' ∧ PostS ⟨X.K, cls⟩ W { en with B := G1, R := ρ1, F := H1 } Dn (forD p kl β (xs.drop (i + 1)) Γ S),
        fun σ' H' n => ⟨xs.length - (i + 1), by omega, rfl, hlt, n⟩, fun x H' y => ?_⟩
      obtain ⟨G', m', n', r'⟩ := sk.yld S ρ G H i x H' _ s.mem.toS s.base s.basr s.old (List.getElem?_eq_getElem hlt) y
      have mm := s.mem.step n' m'
      have s' := s.step mm n'
      rw [forD] at q
      cases hbd : p.bind xs[i] Γ with
      | none => rw [hbd] at q; exact q.elim
      | some Γ1 =>
        rw [hbd] at q
        refine Pat.ok (C := ⟨X.K, cls⟩) p xs[i] x Γ Γ1 σ mm r' hbd _ fun σ2 m2 sb kp => ?_
        refine ⟨_, Γ1, S, ρ, G', sb _ s', ?_⟩
        simp only at q
        cases hz : β Γ1 S with
        | next Γ2 S2 => rw [hz] at q; exact fun ρ3 G3 H3 σ3 s3 => ⟨_, S2, ρ3, G3, s3.clr, q⟩
        | cont Γ2 S2 => rw [hz] at q; exact fun ρ3 G3 H3 σ3 s3 => ⟨_, S2, ρ3, G3, s3.clr, q⟩
        | brk Γ2 S2 => rw [hz] at q; exact fun ρ3 G3 H3 σ3 s3 => q ρ3 G3 H3 σ3 s3.clr
        | ret d S2 => rw [hz] at q; exact q
        | exc e Γ2 S2 => rw [hz] at q; exact q
        | stuck => rw [hz] at q; exact q.elim
    · have e : i = xs.length := by omega
      subst e
      rw [List.drop_length, forD] at q
      exact .inl ⟨sk.stop S ρ G H s.mem.toS s.base s.basr s.old, q ρ G H σ s⟩⟩
def noXc : Out → Out
  | .exc _ _ _ => .stuck
  | o => o
def sForK (i : Nat) (p : Pat) (kl : List Nat) (β : Ds) : Ds := fun Γ S => noXc (sFor (iK i) p kl β Γ S)
theorem ds_forK {body : List Stmt} {p : Pat} {kl : List Nat} {β : Ds} (i : Nat) (hp : PassesOwn (model X.prog X.w) X.A X.env X.xe) (hc : X.calm = true) (hg : PG X tg (p.g X.K)) (hb : DSs X cls W body β)
    (hN : X.N[i]? = some x := by rfl) (hv : Vis X.env.scope x := by first | exact Or.inl rfl | exact Or.inr (Or.inl rfl) | exact Or.inr (Or.inr rfl)) (hd : (x == ("__debug__" : Str)) = false := by decide)
    (hcd : (x == ("__classdict__" : Str)) = false := by decide)
    (hs : ∀ y, foldedSetIterable (.Name x p0) X.env y = pure y := by intro _; rfl) : DS X cls W (.For tg (.Name x p0) body [] pos) (sForK i p kl β) := by
  have base := ps_for (pos := pos) hp hc (pi_k (cls := cls) (W := W) (p0 := p0) (tg := tg) i hN hv hd hcd) hg hb hs
  refine PS.weak (PS.or base (ps_lock base)) fun Dn σ H ⟨en, Γ, S, ρ, G, s, q⟩ => ?_
  unfold sForK at q
  have nx : ∀ e Γ' S', sFor (iK i) p kl β Γ S ≠ .exc e Γ' S' := fun e Γ' S' z => by rw [z] at q; exact q
  have q' : PostS ⟨X.K, cls⟩ W en Dn (sFor (iK i) p kl β Γ S) := by
    cases z : sFor (iK i) p kl β Γ S with
    | exc e Γ' S' => exact absurd z (nx e Γ' S')
    | _ => rw [z] at q; exact q
  -- the dict
  obtain ⟨ks, xs, hΓ⟩ : ∃ ks xs, Γ[i]? = some (.val (.dct ks xs)) := by
    unfold sFor iK at q'
    split at q'
    · rename_i ks xs h; exact ⟨ks, xs, h⟩
    · exact q'.elim
  obtain ⟨v, e1, r⟩ := s.mem.val i _ hΓ
  rw [Rep] at r
  obtain ⟨d, vs, rfl, g, hl, rr⟩ := r
  rcases s.mem.sub.dk g with hk | ⟨od, hk⟩
  · refine .inr ⟨d, _, hk, trivial, fun od => ?_⟩
    obtain ⟨en', s', b1, b2⟩ := ent_lock s hk g od
    have q2 := post_lock (u := .dK (ks.zip vs)) rfl b1 b2 nx q'
    have := for_core s' q2
    exact ⟨⟨d, od, _, e1, upd_same⟩, this⟩
  · exact .inl ⟨⟨d, od, _, e1, hk⟩, for_core s q'⟩
end
end DL

namespace DL
open PySem PySem.Spec PyProof.Rows L2
/-! ### e.f, o.f = e -/
def eAtt (f : Str) (g : Nat → Bool) (a : De) : De := fun Γ S => (a Γ S).bind fun x S1 => match deref S1 x with
  | .ins c ns xs => if g c = true then ofO ((ns.zip xs).lookup f) S1 else .stuck
  | _ => .stuck
def putD (f : Str) (d : D) : List Str → List D → List Str × List D
  | n :: ns, x :: xs => if n = f then (n :: ns, d :: xs) else (n :: (putD f d ns xs).1, x :: (putD f d ns xs).2)
  | _, _ => ([f], [d])
theorem putD_rep {C : Cn} {ρ : List Addr} {G : Hp} {f : Str} {d : D} {v : V} (rd : Rep C ρ G d v) : ∀ {ns : List Str} {xs : List D} {vs : List V}, Reps C ρ G xs vs → ns.length = xs.length →
    ∃ us, putF f v (ns.zip vs) = (putD f d ns xs).1.zip us ∧ (putD f d ns xs).1.length = (putD f d ns xs).2.length ∧ Reps C ρ G (putD f d ns xs).2 us
  | [], [], vs, r, _ => by
    rw [r.inv0]
    refine ⟨[v], ?_, by unfold putD; rfl, by unfold putD; exact .cons rd .nil⟩
    unfold putD; unfold putF; rfl
  | [], x :: xs, vs, r, h => by cases h
  | n :: ns, [], vs, r, h => by cases h
  | n :: ns, x :: xs, vs, r, h => by
    obtain ⟨u, us, rfl, h1, h2⟩ := r.inv
    obtain ⟨ws, e1, e2, e3⟩ := putD_rep rd (ns := ns) h2 (by simpa using h)
    rw [List.zip_cons_cons]
    unfold putD putF
    by_cases e : n = f
    · rw [if_pos e, if_pos e]
      exact ⟨v :: us, rfl, by simpa using h, .cons rd h2⟩
    · rw [if_neg e, if_neg e, e1]
      exact ⟨u :: ws, rfl, by simp [e2], .cons h1 e3⟩
def sAtt (f : Str) (g : Nat → Bool) (o e : De) : Ds := fun Γ S => after (e Γ S) Γ fun d S1 => after (o Γ S1) Γ fun x S2 => match x with
  | .ptr q => match S2[q]? with
    | some (.ins c ns xs) => if g c = true ∧ ns.length < 900 then .next Γ (S2.set q (.ins c (putD f d ns xs).1 (putD f d ns xs).2)) else .stuck
    | _ => .stuck
  | _ => .stuck
section
variable {X : Cx} {cls : Nat → Addr} {W : WX} {a e o : Expr} {δa δo ε ε1 ε2 : De} {pos pos' p apos cpos : Pos} {f : Str} {g : Nat → Bool}
theorem de_att (hg : ∀ c, g c = true → Cls X.K (cls (c + 3)) ∧ NoAttr X.K (cls (c + 3)) f) (ha : DE X cls W a δa) (hb : attributeBase a f X.env (eval a X.env) = eval a X.env := by rfl) : DE X cls W (.Attribute a f pos) (eAtt f g δa) :=
  PE.weak (pe_fld ha hb) fun σ H Q ⟨Γ, S, ρ, G, m, p⟩ => ⟨Γ, S, ρ, G, m, (Post.seq back_RS p).mono fun x H1 ⟨dx, S1, ρ1, G1, m1, n1, r1, p1⟩ => by
    have rt := m1.read (H0 := H1) (.inl r1)
    split at p1
    · rename_i c ns xs ed
      rw [ed] at rt
      obtain ⟨b, dxx, vs, rfl, h1, hl, rr⟩ := rt
      split at p1
      · rename_i hgc
        obtain ⟨d, hd, p2⟩ := ofO_post p1
        obtain ⟨v, hv, rv⟩ := zip_lookup rr hd
        exact ⟨b, _, dxx, _, v, rfl, h1, (hg c hgc).1, (hg c hgc).2, hv, p2.at m1 rv⟩
      · exact p1.elim
    · exact p1.elim⟩
theorem ds_att {value : Expr} (hg : ∀ c, g c = true → Cls X.K (cls (c + 3)) ∧ NoAttr X.K (cls (c + 3)) f) (ho : DE X cls W o δo) (hv : DE X cls W value ε) (hs : swapsWith value (some (.Attribute o f pos')) pos.line X.env = pure false := by rfl) :
    DS X cls W (.Assign [.Attribute o f pos'] value pos) (sAtt f g δo ε) := PS.weak (ps_fld ho hv hs) fun D σ H ⟨en, Γ, S, ρ, G, s, p⟩ =>
  ⟨Γ, S, ρ, G, s.mem, post_after s p fun d S1 ρ1 G1 H1 v m1 n1 s1 r1 p1 => ⟨Γ, S1, ρ1, G1, s1.mem, post_after s1 p1 fun dx S2 ρ2 G2 H2 x m2 n2 s2 r2 p2 => by
    cases dx with
    | ptr q =>
      simp only at p2
      split at p2
      · rename_i c ns xs hx
        split at p2
        · rename_i hgc
          obtain ⟨b, hb, rfl⟩ := rep_ptr.mp r2
          obtain ⟨b', hb', dxx, vs, h1, hl, rr⟩ := m2.sto q _ hx
          rw [hb] at hb'; cases hb'
          obtain ⟨us, e1, e2, e3⟩ := putD_rep (f := f) (r1.mono n2.ext n2.pre) rr hl
          obtain ⟨m4, n4⟩ := m2.poke (a := b) (o := .ins (cls (c + 3)) dxx (putF f v (ns.zip vs))) (d' := .ins c (putD f d ns xs).1 (putD f d ns xs).2) hx hb ⟨dxx, us, by rw [upd_same, e1], e2, e3⟩
          exact ⟨b, _, dxx, _, rfl, h1, (hg c hgc.1).1, (hg c hgc.1).2, by rw [List.length_zip]; have := hgc.2; omega, p2 _ _ _ _ (s2.step m4 n4)⟩
        · exact p2.elim
      · exact p2.elim
    | _ => exact p2.elim⟩⟩
/-! ### o.append(e), o.pop(), o in the store -/
def sAppP (o e : De) : Ds := fun Γ S => after (o Γ S) Γ fun x S1 => match deref S1 x with
  | .lst _ => after (e Γ S1) Γ fun d S2 => match x with
    | .ptr q => match S2[q]? with
      | some (.lst xs) => if xs.length < sizeLine then .next Γ (S2.set q (.lst (xs ++ [d]))) else .stuck
      | _ => .stuck
    | _ => .stuck
  | _ => .stuck
theorem ds_appP {c : Expr} (h : PE X c (tBM X.K "list" rAppend (tE ⟨X.K, cls⟩ W (RS ⟨X.K, cls⟩) δo) (tCons (tE ⟨X.K, cls⟩ W (RS ⟨X.K, cls⟩) ε) tNil))) (hs : swapsWith c none pos.line X.env = pure false := by rfl) : DS X cls W (.Expr c pos) (sAppP δo ε) :=
  PS.weak (ps_expr h hs) fun D σ H ⟨en, Γ, S, ρ, G, s, p⟩ => ⟨Γ, S, ρ, G, s.mem, post_after s p fun dx S1 ρ1 G1 H1 x m1 n1 s1 r1 p1 => by
    have rt := m1.read (H0 := H1) (.inl r1)
    split at p1
    · rename_i xs0 ed
      rw [ed] at rt
      obtain ⟨b0, vs0, rfl, h0, _⟩ := rt
      refine ⟨.inl ⟨rfl, vs0, SqL.of h0⟩, Γ, S1, ρ1, G1, s1.mem, post_after s1 p1 fun d S2 ρ2 G2 H2 v m2 n2 s2 r2 p2 => ?_⟩
      split at p2
      · rename_i q
        split at p2
        · rename_i xs hx
          split at p2
          · rename_i hl
            obtain ⟨a, vs, e1, ha, h1, rr⟩ := sto_at m2 (Rep.mono n2.ext n2.pre _ _ r1) hx
            cases e1
            obtain ⟨m4, n4⟩ := m2.poke (a := b0) (o := .lst (vs ++ [v])) (d' := .lst (xs ++ [d])) hx ha ⟨_, upd_same, rr.append (.cons r2 .nil)⟩
            exact ⟨b0, vs, v, rfl, rfl, h1, by rw [← rr.length]; exact hl, p2 _ _ _ _ (s2.step m4 n4)⟩
          · exact p2.elim
        · exact p2.elim
      · exact p2.elim
    · exact p1.elim⟩
def sPopP (o : De) : Ds := fun Γ S => after (o Γ S) Γ fun x S1 => match x with
  | .ptr q => match S1[q]? with
    | some (.lst xs) => if xs ≠ [] then .next Γ (S1.set q (.lst xs.dropLast)) else .stuck
    | _ => .stuck
  | _ => .stuck
theorem ds_popP {c : Expr} (h : PE X c (tBM0 X.K "list" rPop (tE ⟨X.K, cls⟩ W (RS ⟨X.K, cls⟩) δo))) (hs : swapsWith c none pos.line X.env = pure false := by rfl) : DS X cls W (.Expr c pos) (sPopP δo) :=
  PS.weak (ps_expr h hs) fun D σ H ⟨en, Γ, S, ρ, G, s, p⟩ => ⟨Γ, S, ρ, G, s.mem, post_after s p fun dx S1 ρ1 G1 H1 x m1 n1 s1 r1 p1 => by
    split at p1
    · rename_i q
      split at p1
      · rename_i xs hx
        split at p1
        · rename_i hne
          obtain ⟨a, vs, rfl, ha, h1, rr⟩ := sto_at m1 r1 hx
          have hlen : xs.length - 1 < xs.length := by have := List.length_pos_iff.mpr hne; omega
          obtain ⟨y, hy, _⟩ := rr.get (List.getElem?_eq_getElem hlen)
          obtain ⟨m4, n4⟩ := m1.poke (a := a) (o := .lst vs.dropLast) (d' := .lst xs.dropLast) hx ha ⟨_, upd_same, rr.dropLast⟩
          exact ⟨.inl ⟨rfl, vs, SqL.of h1⟩, a, vs, y, rfl, rfl, h1, by rw [← rr.length]; exact hy, p1 _ _ _ _ (s1.step m4 n4)⟩
        · exact p1.elim
      · exact p1.elim
    · exact p1.elim⟩
/-! ### d[k] = e, del d[k], d.pop(k), d in the store -/
def sPutP (o k e : De) : Ds := fun Γ S => after (e Γ S) Γ fun d S1 => after (o Γ S1) Γ fun x S2 => after (k Γ S2) Γ fun y S3 => match x with
  | .ptr q => match S3[q]?, keyD y with
    | some (.dct ks xs), some kk => if xs.length < sizeLine then .next Γ (S3.set q (.dct (dPut ks xs kk d).1 (dPut ks xs kk d).2)) else .stuck
    | _, _ => .stuck
  | _ => .stuck
theorem sto_dct {C : Cn} {Γ : List Sl} {S : List D} {ρ : List Addr} {G H : Hp} {σ : L2.St} (m : Mem C Γ S ρ G H σ) {q : Nat} {v : V} {ks : List Key} {xs : List D} (r : Rep C ρ G (.ptr q) v) (h : S[q]? = some (.dct ks xs)) :
    ∃ a vs, v = V.ref a ∧ ρ[q]? = some a ∧ H a = some (.dK (ks.zip vs)) ∧ ks.length = xs.length ∧ Reps C ρ G xs vs := by
  obtain ⟨a, ha, rfl⟩ := rep_ptr.mp r
  obtain ⟨b, hb, vs, h1, h2, h3⟩ := m.sto q _ h
  rw [ha] at hb; cases hb
  exact ⟨a, vs, rfl, ha, h1, h2, h3⟩
theorem ds_putP {k val : Expr} (hu : X.A.units + 1 < cLine) (ho : DE X cls W o δo) (hk : DE X cls W k ε1) (hv : DE X cls W val ε2) (hs : swapsWith val (some (.Subscript o k pos')) pos.line X.env = pure false := by rfl) :
    DS X cls W (.Assign [.Subscript o k pos'] val pos) (sPutP δo ε1 ε2) := PS.weak (ps_dput hu ho hk hv hs) fun D σ H ⟨en, Γ, S, ρ, G, s, p⟩ =>
  ⟨Γ, S, ρ, G, s.mem, post_after s p fun d S1 ρ1 G1 H1 v m1 n1 s1 r1 p1 => ⟨Γ, S1, ρ1, G1, s1.mem, post_after s1 p1 fun dx S2 ρ2 G2 H2 x m2 n2 s2 r2 p2 => ⟨Γ, S2, ρ2, G2, s2.mem, post_after s2 p2 fun dy S3 ρ3 G3 H3 y m3 n3 s3 r3 p3 => by
    cases dx with
    | ptr q =>
      simp only at p3
      split at p3
      · rename_i ks xs kk hx hkk
        split at p3
        · rename_i hz
          obtain ⟨a, vs, rfl, ha, h1, hl, rr⟩ := sto_dct m3 (Rep.mono n3.ext n3.pre _ _ r2) hx
          have ek := keyD_v hkk r3
          subst ek
          obtain ⟨us, e1, e2, e3⟩ := put_zip ((r1.mono n2.ext n2.pre).mono n3.ext n3.pre) rr hl kk
          obtain ⟨m4, n4⟩ := m3.poke (a := a) (o := .dK (putK (ks.zip vs) kk v)) (d' := .dct (dPut ks xs kk d).1 (dPut ks xs kk d).2) hx ha ⟨us, by rw [upd_same, e1], e2, e3⟩
          refine ⟨a, _, rfl, DPut.k h1 ?_, p3 _ _ _ _ (s3.step m4 n4)⟩
          rw [List.length_zip, hl, rr.length, Nat.min_self, ← rr.length]; exact hz
        · exact p3.elim
      · exact p3.elim
    | _ => exact p3.elim⟩⟩⟩
def dDropX (k : Key) : List Key → List D → List Key × List D
  | q :: ks, x :: xs => if q = k then dDropX k ks xs else (q :: (dDropX k ks xs).1, x :: (dDropX k ks xs).2)
  | _, _ => ([], [])
theorem drop_zip {C : Cn} {ρ : List Addr} {G : Hp} (k : Key) : ∀ {ks : List Key} {xs : List D} {vs : List V}, Reps C ρ G xs vs → ks.length = xs.length →
    ∃ us, dropK (ks.zip vs) k = (dDropX k ks xs).1.zip us ∧ (dDropX k ks xs).1.length = (dDropX k ks xs).2.length ∧ Reps C ρ G (dDropX k ks xs).2 us
  | [], [], vs, r, _ => by rw [r.inv0]; exact ⟨[], rfl, by unfold dDropX; rfl, by unfold dDropX; exact .nil⟩
  | [], x :: xs, vs, r, h => by cases h
  | n :: ns, [], vs, r, h => by cases h
  | q :: ks, x :: xs, vs, r, h => by
    obtain ⟨u, us, rfl, h1, h2⟩ := r.inv
    obtain ⟨ws, e1, e2, e3⟩ := drop_zip k (ks := ks) h2 (by simpa using h)
    unfold dropK at e1 ⊢
    rw [List.zip_cons_cons, List.filter_cons]
    unfold dDropX
    by_cases e : q = k
    · rw [if_pos e]; simp [e] at e1 ⊢; exact ⟨ws, e1, e2, e3⟩
    · rw [if_neg e]; simp [e] at e1 ⊢; exact ⟨u :: ws, by rw [e1]; rfl, by simp [e2], .cons h1 e3⟩
def sDelP (o k : De) : Ds := fun Γ S => after (o Γ S) Γ fun x S1 => after (k Γ S1) Γ fun y S2 => match x with
  | .ptr q => match S2[q]?, keyD y with
    | some (.dct ks xs), some kk => if (dGet ks xs kk).isSome = true then .next Γ (S2.set q (.dct (dDropX kk ks xs).1 (dDropX kk ks xs).2)) else .stuck
    | _, _ => .stuck
  | _ => .stuck
theorem valV_some {C : Cn} {ρ : List Addr} {G : Hp} {ks : List Key} {xs : List D} {vs : List V} (r : Reps C ρ G xs vs) (hl : ks.length = xs.length) (k : Key) : (valV (ks.zip vs) k).isSome = (dGet ks xs k).isSome := by
  have z := dGet_val r hl k
  cases q : dGet ks xs k with
  | some d => rw [q] at z; obtain ⟨v, e, _⟩ := z; rw [e]; rfl
  | none => rw [q] at z; rw [z]; rfl
theorem ds_delP {k : Expr} {tpos : Pos} (ho : DE X cls W o δo) (hk : DE X cls W k ε1) : DS X cls W (.Delete [.Subscript o k tpos] pos) (sDelP δo ε1) := PS.weak (ps_ddel ho hk) fun D σ H ⟨en, Γ, S, ρ, G, s, p⟩ =>
  ⟨Γ, S, ρ, G, s.mem, post_after s p fun dx S2 ρ2 G2 H2 x m2 n2 s2 r2 p2 => ⟨Γ, S2, ρ2, G2, s2.mem, post_after s2 p2 fun dy S3 ρ3 G3 H3 y m3 n3 s3 r3 p3 => by
    cases dx with
    | ptr q =>
      simp only at p3
      split at p3
      · rename_i ks xs kk hx hkk
        split at p3
        · rename_i hz
          obtain ⟨a, vs, rfl, ha, h1, hl, rr⟩ := sto_dct m3 (Rep.mono n3.ext n3.pre _ _ r2) hx
          have ek := keyD_v hkk r3
          subst ek
          obtain ⟨us, e1, e2, e3⟩ := drop_zip kk rr hl
          obtain ⟨m4, n4⟩ := m3.poke (a := a) (o := .dK (dropK (ks.zip vs) kk)) (d' := .dct (dDropX kk ks xs).1 (dDropX kk ks xs).2) hx ha ⟨us, by rw [upd_same, e1], e2, e3⟩
          exact ⟨a, _, kk, rfl, h1, rfl, by rw [valV_some rr hl]; exact hz, p3 _ _ _ _ (s3.step m4 n4)⟩
        · exact p3.elim
      · exact p3.elim
    | _ => exact p3.elim⟩⟩
end
end DL

namespace DL
open PySem PySem.Spec PyProof.Rows L2
/-! ### methods, new instances -/
def eMeth (c : Nat) (m : Str) (F : List D → List D → Res D) (o : De) (α : Da) : De := fun Γ S => (o Γ S).bind fun x S1 => match deref S1 x with
  | .ins c' ns _ => if c' = c ∧ ns.contains m = false then (α Γ S1).bind fun ds S2 => F (x :: ds) S2 else .stuck
  | _ => .stuck
def eMake (c : Nat) (F : List D → List D → Res D) (α : Da) : De := fun Γ S => (α Γ S).bind fun ds S1 => (F (.ptr S1.length :: ds) (S1 ++ [.ins c [] []])).bind fun d S2 => if isNon d = true then .ok (.ptr S1.length) S2 else .stuck
theorem lookup_zip_none {ns : List Str} {vs : List V} {m : Str} (h : ns.contains m = false) : (ns.zip vs).lookup m = none := by
  induction ns generalizing vs with
  | nil => rfl
  | cons n r ih =>
    cases vs with
    | nil => rfl
    | cons v us =>
      rw [List.contains_cons, Bool.or_eq_false_iff] at h
      rw [List.zip_cons_cons, List.lookup_cons, h.1]
      exact ih h.2
section
variable {C : Cn} {W : WX} {F : List D → List D → Res D} {Γ : List Sl} {S : List D} {ρ : List Addr} {G H : Hp} {σ : L2.St} {Q : VK} {α : Da}
theorem exM {k : Nat} {d0 : D} {v0 : V} (hal : ALen α k) (m : Mem C Γ S ρ G H σ) (r0 : Rep C ρ G d0 v0) (p : Post C W (RS C) Γ ρ G H σ ((α Γ S).bind fun ds S2 => F (d0 :: ds) S2) Q) :
    tA C W α σ H fun vs H1 => spD C (k + 1) F (v0 :: vs) H1 Q (fun c d H2 => W c d σ H2) := by
  refine ⟨Γ, S, ρ, G, m, ?_⟩
  cases q : α Γ S with
  | exc x S1 => rw [q] at p; exact p
  | stuck => rw [q] at p; exact p
  | ok ds S1 =>
    rw [q] at p
    simp only [Res.bind_ok] at p
    intro vs ρ1 G1 H1 m1 n1 r1
    refine ⟨S1, ρ1, G1, d0 :: ds, m1.toS, .cons (r0.mono n1.ext n1.pre) r1, ?_, ?_⟩
    · rw [List.length_cons, ← r1.length, hal.le _ _ _ _ q]
    cases z : F (d0 :: ds) S1 with
    | ok d S2 => rw [z] at p; exact fun v ρ2 G2 H2 m2 n2 r2 => p v ρ2 G2 H2 (m1.step n2 m2) (n1.trans n2) r2
    | exc x S2 => rw [z] at p; exact fun c dx ρ2 G2 H2 m2 n2 r2 => p c dx ρ2 G2 H2 (m1.step n2 m2) (n1.trans n2) r2
    | stuck => rw [z] at p; exact p
/-- one more object in the store -/
theorem MemS.push {a : Addr} {d : D} (m : MemS C S ρ G H) (na : a ∉ ρ) (ga : G a = none) (r : ObAt C ρ G H a d) : MemS C (S ++ [d]) (ρ ++ [a]) G H := by
  have k : ρ <+: ρ ++ [a] := List.prefix_append _ _
  refine ⟨m.sub, fun i d h => by simp at h, fun i d h => by simp at h, fun i j d d' a h => by simp at h, fun i x h => ?_, fun b hb => ?_, by rw [List.length_append, List.length_append, m.len] <;> rfl, ?_, rfl, fun i x h => by simp at h⟩
  · by_cases hi : i < S.length
    · rw [List.getElem?_append_left hi] at h
      obtain ⟨b, hb, rb⟩ := m.sto i x h
      exact ⟨b, by rw [List.getElem?_append_left (by rw [m.len]; exact hi)]; exact hb, rb.mono .refl k fun _ q => q⟩
    · rw [List.getElem?_append_right (by omega)] at h
      have e : i = S.length := by
        have := (List.getElem?_eq_some_iff.mp h).1
        simp at this; omega
      subst e
      simp at h; subst h
      exact ⟨a, by rw [List.getElem?_append_right (by rw [m.len]; omega), m.len]; simp, r.mono .refl k fun _ q => q⟩
  · rcases List.mem_append.mp hb with z | z
    · exact m.stG b z
    · rw [List.mem_singleton] at z; subst z; exact ga
  · rw [List.nodup_append]
    exact ⟨m.nd, by simp, fun x hx y hy e => by rw [List.mem_singleton] at hy; subst hy; subst e; exact na hx⟩
end
section
variable {X : Cx} {cls : Nat → Addr} {W : WX} {k c n : Nat} {f : Addr} {fd : FuncData} {ps : List Str} {x m : Str} {p pos apos : Pos} {e o : Expr} {es : List Expr} {α : Da} {δo : De} {F : List D → List D → Res D}
theorem meth_post {Γ : List Sl} {S : List D} {ρ : List Addr} {G H : Hp} {σ : L2.St} {Q : VK} (hal : ALen α n) (mm : Mem ⟨X.K, cls⟩ Γ S ρ G H σ) (q : Post ⟨X.K, cls⟩ W (RS ⟨X.K, cls⟩) Γ ρ G H σ (eMeth c m F δo α Γ S) Q) :
    tE ⟨X.K, cls⟩ W (RS ⟨X.K, cls⟩) δo σ H fun x H1 => ∃ a dx fs, x = .ref a ∧ H1 a = some (.ins (cls (c + 3)) dx fs) ∧ fs.lookup m = none ∧ tA ⟨X.K, cls⟩ W α σ H1 fun vs H2 => spD ⟨X.K, cls⟩ (n + 1) F (x :: vs) H2 Q (fun c d H2 => W c d σ H2) := by
  unfold eMeth at q
  refine ⟨Γ, S, ρ, G, mm, (Post.seq back_RS q).mono fun x H1 ⟨dx, S1, ρ1, G1, m1, n1, r1, p1⟩ => ?_⟩
  have rt := m1.read (H0 := H1) (.inl r1)
  split at p1
  · rename_i c' ns xs ed
    rw [ed] at rt
    obtain ⟨b, dxx, vs, rfl, h1, hl, rr⟩ := rt
    split at p1
    · rename_i hc
      obtain ⟨hc, hn⟩ := hc
      subst hc
      exact ⟨b, dxx, _, rfl, h1, lookup_zip_none hn, exM hal m1 r1 p1⟩
    · exact p1.elim
  · exact p1.elim
theorem de_meth {pl : Sem Bool} (Cl : Cls X.K (cls (c + 3))) (hm : Meth X.K (cls (c + 3)) m f) (Fn : FnG X.prog X.w X.K X.mg X.base k f fd ps (spD ⟨X.K, cls⟩ (n + 1) F)) (tk : Takes X W) (rm : RoomG k X.A) (bd : Binds X.K fd ps []) (ho : DE X cls W o δo) (ha : DA X cls W (e :: es) α) (hal : ALen α n)
    (hst : starEach (e :: es) X.env = (false, eval e X.env) :: starEach es X.env := by rfl) (hpl : (backTo pos (starEach es X.env)).any (·.1) = false := by rfl)
    (ht : eval (.Call (.Attribute o m apos) (e :: es) [] pos) X.env = (do let ov ← eval o X.env; standAt apos.atName; let (f, first) ← holding [ov] (getMethod ov m pl); callWith pos f first (backTo pos (starEach (e :: es) X.env)) (backToKw pos (keywordEach [] X.env))) := by rfl) :
    DE X cls W (.Call (.Attribute o m apos) (e :: es) [] pos) (eMeth c m F δo α) := ⟨fun pins s σ H Q I ⟨Γ, S, ρ, G, mm, q⟩ => by
  refine PySem.W.methodCall_KW (pl := pl) (thn (ho.run pins s σ H _ I (meth_post hal mm q)) fun u s1 ⟨x, H1, I1, rx, a, dx, fs, ex, ea, l, q⟩ => ?_) ht
  subst ex; obtain rfl : u = Value.ref a := rx
  refine getmeth_ok I1 ea Cl hm l ?_
  refine PySem.W.callWith_K (first := [.ref a]) (h₀ := X.base) I.ok.mod.kin hm.kp (thn (ha.run pos pins s1 σ H1 _ I1 q) fun us s2 ⟨vs, H2, I2, r, q2⟩ => ⟨I2.kIn, ?_⟩) hst hpl
  exact goesG (us := .ref a :: us) (vs := .ref a :: vs) Fn rm bd (passAt tk σ) I2 (.cons rfl r) q2⟩
theorem de_meth0 {pl : Sem Bool} (Cl : Cls X.K (cls (c + 3))) (hm : Meth X.K (cls (c + 3)) m f) (Fn : FnG X.prog X.w X.K X.mg X.base k f fd ps (spD ⟨X.K, cls⟩ (0 + 1) F)) (tk : Takes X W) (rm : RoomG k X.A) (bd : Binds X.K fd ps []) (ho : DE X cls W o δo)
    (ht : eval (.Call (.Attribute o m apos) [] [] pos) X.env = (do let ov ← eval o X.env; standAt apos.atName; let (f, first) ← holding [ov] (getMethod ov m pl); callWith pos f first (backTo pos (starEach [] X.env)) (backToKw pos (keywordEach [] X.env))) := by rfl) :
    DE X cls W (.Call (.Attribute o m apos) [] [] pos) (eMeth c m F δo aNil) := ⟨fun pins s σ H Q I ⟨Γ, S, ρ, G, mm, q⟩ => by
  refine PySem.W.methodCall_KW (pl := pl) (thn (ho.run pins s σ H _ I (meth_post ALen.nil mm q)) fun u s1 ⟨x, H1, I1, rx, a, dx, fs, ex, ea, l, q⟩ => ?_) ht
  subst ex; obtain rfl : u = Value.ref a := rx
  refine getmeth_ok I1 ea Cl hm l ?_
  obtain ⟨Γ1, S1, ρ1, G1, m1, p1⟩ := q
  exact PySem.W.callWith_K0 (first := [.ref a]) I1.kIn hm.kp (goesG (us := [.ref a]) (vs := [.ref a]) Fn rm bd (passAt tk σ) I1 (.cons rfl .nil) (p1 [] ρ1 G1 H1 m1 .refl .nil))⟩
theorem RoomG.make {A : Around} (r : RoomG (k + 1) A) (C : Addr) (us : List Value) (kw : List (Str × Value)) : RoomG k (A.under (.builtin "type.__call__" ⟨.ref C :: us, kw⟩)) := ⟨r.toRoom.make C us kw, by
  have h := r.gd
  simp [Around.under, Code.guards, Code.isGuard, guardIds, pushGuards, h]⟩
theorem new_go {pins : List (Addr × Obj)} {σ : L2.St} {H : Hp} {s : Shared} {Q : VK} {E : XK} {us : List Value} {vs : List V} {C : Addr} {sp : Sp} (M : Mk X.K C f) (Fn : FnG X.prog X.w X.K X.mg X.base k f fd ps sp) (rm : RoomG (k + 1) X.A) (bd : Binds X.K fd ps [])
    (pa : ∀ pins H s er s2, Inv X pins σ H s → L2.CX X.prog X.w X.stack H s E er s2 → X.xe er s2) (I : Inv X pins σ H s) (rv : Vals vs us)
    (h : ∀ x dx, H x = none → H dx = none → dx ≠ x → sp (.ref x :: vs) (upd (upd H dx (.own x)) x (.ins C dx [])) (fun v H2 => v = .non ∧ Q (.ref x) H2) E) :
    wpAny (model X.prog X.w) X.A (call (.ref C) us) (EP X pins σ Q) X.xe s := by
  have hq := h (s.heap.objs.size + 1) s.heap.objs.size (I.hok.fresh (Nat.le_succ _)) (I.hok.fresh (Nat.le_refl _)) (Nat.ne_of_lt (Nat.lt_succ_self _))
  have J := Inv.made (C := C) I
  have r2 : Vals (V.ref (s.heap.objs.size + 1) :: vs) (Value.ref (s.heap.objs.size + 1) :: us) := .cons rfl rv
  have b2 := bd _ (Value.ref (s.heap.objs.size + 1) :: us) J.kIn (by rw [List.append_nil, ← r2.length]; exact Fn.lng _ _ _ _ hq)
  rw [List.append_nil] at b2
  refine wpAny_call (make_map (f := f) I.kIn M.makes M.init (beq_iff_eq.mp M.fn) (codeAny_mono (Fn.goes _ X.stack _ _ ⟨Value.ref (s.heap.objs.size + 1) :: us, []⟩ _ _ _ E (rm.make C us []) (J.env0.make C us []) b2 r2 hq) ?_))
  intro r s2 hq'
  match r, hq' with
  | .error er, hq' => exact pa pins _ _ er s2 J hq'
  | .ok .next, hq' => exact hq'.elim
  | .ok .brk, hq' => exact hq'.elim
  | .ok .cont, hq' => exact hq'.elim
  | .ok (.ret u), hq' =>
    obtain ⟨v, H', I3, rv3, ev, q3⟩ := J.after hq'
    subst ev
    exact ⟨rv3, ⟨V.ref (s.heap.objs.size + 1), H', I3, rfl, q3⟩⟩
theorem make_post {Γ : List Sl} {S : List D} {ρ : List Addr} {G H : Hp} {σ : L2.St} {Q : VK} (hal : ALen α n) (mm : Mem ⟨X.K, cls⟩ Γ S ρ G H σ) (q : Post ⟨X.K, cls⟩ W (RS ⟨X.K, cls⟩) Γ ρ G H σ (eMake c F α Γ S) Q) :
    tA ⟨X.K, cls⟩ W α σ H fun vs H1 => ∀ x dx, H1 x = none → H1 dx = none → dx ≠ x → spD ⟨X.K, cls⟩ (n + 1) F (.ref x :: vs) (upd (upd H1 dx (.own x)) x (.ins (cls (c + 3)) dx [])) (fun v H2 => v = .non ∧ Q (.ref x) H2) (fun c d H2 => W c d σ H2) := by
  refine ⟨Γ, S, ρ, G, mm, ?_⟩
  unfold eMake at q
  cases z : α Γ S with
  | exc x S1 => rw [z] at q; exact q
  | stuck => rw [z] at q; exact q
  | ok ds S1 =>
    rw [z] at q
    simp only [Res.bind_ok] at q
    intro vs ρ1 G1 H1 m1 n1 r1 x dx hx hdx hne
    obtain ⟨m2, n2, _, _⟩ := m1.new (o := .own x) hdx
    have hx2 : upd H1 dx (.own x) x = none := by rw [upd_ne (Ne.symm hne)]; exact hx
    obtain ⟨m3, n3, nx3, gx3⟩ := m2.new (o := .ins (cls (c + 3)) dx []) hx2
    have m4 : MemS ⟨X.K, cls⟩ (S1 ++ [.ins c [] []]) (ρ1 ++ [x]) G1 (upd (upd H1 dx (.own x)) x (.ins (cls (c + 3)) dx [])) := m3.toS.push nx3 gx3 ⟨dx, [], upd_same, rfl, .nil⟩
    have n23 := n2.trans n3
    have n4 : Nx ρ1 G1 H1 (ρ1 ++ [x]) G1 (upd (upd H1 dx (.own x)) x (.ins (cls (c + 3)) dx [])) := ⟨List.prefix_append _ _, .refl, fun _ _ h => .inl h, n23.keep, n23.live, fun a ha => by
      rcases List.mem_append.mp ha with y | y
      · exact .inl y
      · rw [List.mem_singleton] at y; subst y; exact .inr hx⟩
    have hk : (ρ1 ++ [x])[S1.length]? = some x := by rw [← m1.len, List.getElem?_append_right (Nat.le_refl _)]; simp
    refine ⟨_, _, _, .ptr S1.length :: ds, m4, .cons (rep_ptr.mpr ⟨x, hk, rfl⟩) (r1.mono n4.ext n4.pre _), ?_, ?_⟩
    · rw [List.length_cons, ← r1.length, hal.le _ _ _ _ z]
    cases w : F (.ptr S1.length :: ds) (S1 ++ [.ins c [] []]) with
    | stuck => rw [w] at q; exact q
    | exc e S2 => rw [w] at q; exact fun c dx ρ2 G2 H2 m5 n5 r5 => q c dx ρ2 G2 H2 (m1.step (n4.trans n5) m5) ((n1.trans n4).trans n5) r5
    | ok d S2 =>
      rw [w] at q
      simp only [Res.bind_ok] at q
      intro v ρ2 G2 H2 m5 n5 r5
      split at q
      · rename_i hd
        cases d <;> first | (cases hd; done) | skip
        have ev := rep_non.mp r5
        refine ⟨ev, q (.ref x) ρ2 G2 H2 (m1.step (n4.trans n5) m5) ((n1.trans n4).trans n5) (rep_ptr.mpr ⟨x, ?_, rfl⟩)⟩
        obtain ⟨t, ht⟩ := n5.pre
        rw [← ht, List.getElem?_append_left (by rw [List.length_append, m1.len]; simp)]
        exact hk
      · exact q.elim
theorem de_make (M : Mk X.K (cls (c + 3)) f) (Fn : FnG X.prog X.w X.K X.mg X.base k f fd ps (spD ⟨X.K, cls⟩ (n + 1) F)) (tk : Takes X W) (rm : RoomG (k + 1) X.A) (hg : Gl X x) (hm : X.mg x = some (.ref (cls (c + 3)))) (bd : Binds X.K fd ps []) (ha : DA X cls W (e :: es) α) (hal : ALen α n)
    (hdb : (x == ("__debug__" : Str)) = false := by decide) (he : starEach (e :: es) X.env = (false, eval e X.env) :: starEach es X.env := by rfl) (hpl : (backTo pos (starEach es X.env)).any (·.1) = false := by rfl) : DE X cls W (.Call (.Name x p) (e :: es) [] pos) (eMake c F α) := ⟨fun pins s σ H Q I ⟨Γ, S, ρ, G, mm, q⟩ => by
  refine wpAny_Call_Name_kw (ld_glob I hg hm ?_ hdb)
  exact PySem.W.callWith_K (h₀ := X.base) I.ok.mod.kin M.kp (thn (ha.run pos pins s σ H _ I (make_post hal mm q)) fun us s1 ⟨vs, H1, I1, r, q2⟩ => ⟨I1.kIn, new_go M Fn rm bd (passAt tk σ) I1 r q2⟩) he hpl⟩
theorem de_make0 (M : Mk X.K (cls (c + 3)) f) (Fn : FnG X.prog X.w X.K X.mg X.base k f fd ps (spD ⟨X.K, cls⟩ (0 + 1) F)) (tk : Takes X W) (rm : RoomG (k + 1) X.A) (hg : Gl X x) (hm : X.mg x = some (.ref (cls (c + 3)))) (bd : Binds X.K fd ps [])
    (hdb : (x == ("__debug__" : Str)) = false := by decide) : DE X cls W (.Call (.Name x p) [] [] pos) (eMake c F aNil) := ⟨fun pins s σ H Q I ⟨Γ, S, ρ, G, mm, q⟩ => by
  refine wpAny_Call_Name_kw (ld_glob I hg hm ?_ hdb)
  obtain ⟨Γ1, S1, ρ1, G1, m1, p1⟩ := make_post ALen.nil mm q
  exact PySem.W.callWith_K0 I.kIn M.kp (new_go (us := []) (vs := []) M Fn rm bd (passAt tk σ) I .nil (p1 [] ρ1 G1 H m1 .refl .nil))⟩
end
end DL

namespace DL
open PySem PySem.Spec PyProof.Rows L2
/-! ### several except clauses with names -/
abbrev TsA := Addr → Value → Option Addr → TS
def behind (i : Nat) (Dn : Ends) : Ends := { nx := fun σ H => Dn.nx (σ.set i none) H, rt := Dn.rt, bk := fun σ H => Dn.bk (σ.set i none) H, ct := fun σ H => Dn.ct (σ.set i none) H }
def wNm (K : PySem.W.Frag) (Wo : WX) (Dn : Ends) : List (Value × Nat × TsA) → WX
  | [] => Wo
  | (c, i, ts) :: r => fun cls d σ H => ∃ b, PySem.W.exmOne K cls c = some b ∧ (b = true → ∀ a, H a = none → ts a cls d (behind i Dn) (σ.set i (some (.ref a))) H) ∧ (b = false → wNm K Wo Dn r cls d σ H)
inductive HdN (X : Cx) : List ExceptHandler → List (Value × Nat × TsA) → Prop
  | nil : HdN X [] []
  | cons {x n : Str} {c : Value} {i : Nat} {ts : TsA} {b₀ : Stmt} {suite : List Stmt} {np pp : Pos} {hds : List ExceptHandler} {l : List (Value × Nat × TsA)} (hc : Names X x c) (hi : X.N[i]? = some n) (hln : X.env.kindOf n = some .local)
      (hsu : ∀ (a : Addr) (oe : Obj) (cv : Value) (d : Option Addr) (pn : List (Addr × Obj)), Zc cv d oe → (∃ vs, oe.data = .fields vs) → PSs (X.suite a ((a, oe) :: pn)) (b₀ :: suite) (ts a cv d)) (r : HdN X hds l) : HdN X (.ExceptHandler (some (.Name x np)) (some n) (b₀ :: suite) pp :: hds) ((c, i, ts) :: l)
section
variable {X : Cx} {body : List Stmt} {g₀ : ExceptHandler} {hds : List ExceptHandler} {l : List (Value × Nat × TsA)} {pos : Pos} {tb : WX → TS} {Wo : WX}
theorem ps_try_named (sk : X.stack = X.env :: X.outer) (fr : X.env.frame = some X.env.locals) (nN : X.N.Nodup) (tk : Takes X Wo) (bd : ∀ (W : WX) (pn : List (Addr × Obj)) (xe : Value → Shared → Prop), Takes (X.tr pn xe) W → PassesOwn (model X.prog X.w) X.A X.env xe → PSs (X.tr pn xe) body (tb W))
    (hn : HdN X (g₀ :: hds) l) : PS X (.Try body (g₀ :: hds) [] [] pos) (fun Dn σ H => tb (wNm X.K Wo Dn l) Dn σ H) := ⟨fun pins s σ H Dn I want => by
  have ok := I.ok
  have afr : X.A.frames = some (X.env :: X.outer) := by rw [ok.frames, sk]
  refine wpAny_Try_except (wpAny_mono ((bd (wNm X.K Wo Dn l) (X.pn ++ pins) (fun e sa => wpAny (model X.prog X.w) X.A (noteFrame e X.env) (fun _ sb => wpAny (model X.prog X.w) X.A (setFlight e none) (fun _ sc => wpAny (model X.prog X.w) X.A (handleBy e X.env (g₀ :: hds)) (SP X pins Dn) X.xe sc) X.xe sb) X.xe sa)
    (fun u t xx => ?_) PassesOwn.looking).run [] s σ H Dn (I.toTry _) want) (fun f t1 hsp => ?_) (fun e t1 he => he))
  · obtain ⟨a, B, sI, pZ, σZ, HZ, cv, d, rfl, JT, nb, up, sky, na, os, ag, w⟩ := xx
    have J0 : Inv X pins σZ HZ sI := JT.ofTry ok
    have skyE : Sky B (X.env :: X.outer) a (Zc cv d) X.env.locals t.heap := by rw [← sk]; exact sky
    change wpAny (model X.prog X.w) X.A (noteFrame (.ref a) X.env) _ _ _
    refine Sky.land Zc.steady afr fr skyE fun hA flA upA => ?_
    have JA : Inv X pins σZ HZ { t with heap := hA } := J0.landed nb flA.1 (up.trans upA) os ag
    obtain ⟨oA, vA, eA, zA, dA⟩ := flA.there
    have offF : a ∉ frs (X.env :: X.outer) := fun hm => by
      obtain ⟨_, o1, e1, n1⟩ := flA.2.2.1.mem hm
      rw [eA] at e1; cases e1; exact n1 _ dA
    have offL : a ≠ X.env.locals := fun z => offF (List.mem_filterMap.mpr ⟨X.env, List.mem_cons_self, by rw [fr, z]⟩)
    have offO : a ∉ X.fs := fun hm => by
      obtain ⟨e1, m1, q1⟩ := List.mem_filterMap.mp hm
      exact offF (List.mem_filterMap.mpr ⟨e1, List.mem_cons_of_mem _ m1, q1⟩)
    have SA := JA.suite eA dA na offL offO
    have each : ∀ {gs : List ExceptHandler} {ls : List (Value × Nat × TsA)}, HdN X gs ls → wNm X.K Wo Dn ls cv d σZ HZ → wpAny (model X.prog X.w) X.A (handleBy (.ref a) X.env gs) (SP X pins Dn) X.xe { t with heap := hA } := by
      intro gs ls hk
      induction hk with
      | nil =>
        intro wz
        refine wpAny_handleBy_nil ?_
        obtain ⟨q1, q2, q3, oX, vX, TX, oTX, tsX, eX, zX, dX, fX, rX⟩ := id flA
        unfold PySem.passOn
        refine wpAny_bind (wpAny_field eX dX fX ?_)
        rw [if_neg (show ¬ ((Value.ref TX == Value.none) = true) by simp)]
        have away : wpAny (model X.prog X.w) X.A (setFlight (.ref a) X.env.frame) (fun _ sd => wpAny (model X.prog X.w) X.A (throw (.ref a) : Sem Flow) (SP X pins Dn) X.xe sd) X.xe { t with heap := hA } := by
          rw [fr]
          exact HandSPX.setFlight_upZ flA fun hB hhB upB => wpAny_throw (tk _ _ ⟨a, B, sI, pins, σZ, HZ, cv, d, rfl, J0, nb, (up.trans upA).trans upB, .inr (.inr (by rw [sk]; exact hhB)), na, os, ag, wz⟩)
        first | exact wpAny_bind (wpAny_pure (wpAny_bind away)) | exact wpAny_bind away
      | @cons x n c i ts b₀ suite np pp hds2 l2 hc hi hln hsu r ih =>
        rintro ⟨b, isB, yes, no⟩
        refine wpAny_handleBy_cons (codeAny_handlers_test ?_) (by intro q; cases q)
        have LK : PySem.W.Looks (model X.prog X.w) hA (typeOf (.ref a)) cv := fun A1 Q1 E1 s1 k1 q1 => wpAny_typeOf_ref (k1 _ _ eA) (by rw [zA.1]; exact q1)
        have LM := PySem.W.exm_one (M := model X.prog X.w) (JA.kIn) LK isB
        have look : ∀ {Q1 : Value → Shared → Prop} {E1 : Value → Shared → Prop}, Q1 c { t with heap := hA } → wpAny (model X.prog X.w) (X.A.mark (some (.ref a))) (eval (.Name x np) X.env) Q1 E1 { t with heap := hA } := fun {Q1 E1} q1 => by
          obtain ⟨hg, hdbg, hm | ⟨hm, hv, hnn⟩⟩ := hc
          · exact ld_glob (X := X.suite a ((a, oA) :: (X.pn ++ pins))) SA hg hm q1 hdbg
          · exact ld_blt (X := X.suite a ((a, oA) :: (X.pn ++ pins))) SA hg hm hv q1 hnn hdbg
        refine look (LM.here ?_)
        cases b with
        | false => exact ih (no rfl)
        | true =>
          refine codeAny_handlers_suite_as (HandSPX.lands_againZ flA fun hB flB upB => ?_)
          have JB : Inv X pins σZ HZ { t with heap := hB } := J0.landed nb flB.1 ((up.trans upA).trans upB) os ag
          obtain ⟨oB, vB, eB, zB, dB⟩ := flB.there
          have SB := JB.suite eB dB na offL offO
          refine store_ok (X := X.suite a ((a, oB) :: (X.pn ++ pins))) (v := .ref a) SB nN hi (.inl hln) rfl (fun s5 S5 => wpAny_mono ((hsu a oB cv d (X.pn ++ pins) zB ⟨_, dB⟩).run [] s5 _ HZ _ S5 (yes rfl a na)) (fun f s6 hq => ?_) (fun _ _ z => False.elim z)) (.inr hln)
          have last : ∀ {σ6 : L2.St} {H6 : Hp} {Q1 : Shared → Prop}, Inv (X.suite a ((a, oB) :: (X.pn ++ pins))) [] σ6 H6 s6 → (∀ s7, Inv X pins (σ6.set i none) H6 s7 → Q1 s7) → wpAny (model X.prog X.w) X.A (do bindName X.env n .none; unbindBehindTheSuite X.env n pp) (fun _ s7 => Q1 s7) X.xe s6 := fun {σ6 H6 Q1} S6 q1 => gone_ok (S6.unsuite ok) nN hi hln q1
          cases f with
          | next => obtain ⟨_, _, S6, q6⟩ := hq; exact last S6 fun _ J7 => ⟨_, _, J7, q6⟩
          | brk => obtain ⟨_, _, S6, q6⟩ := hq; exact last S6 fun _ J7 => ⟨_, _, J7, q6⟩
          | cont => obtain ⟨_, _, S6, q6⟩ := hq; exact last S6 fun _ J7 => ⟨_, _, J7, q6⟩
          | ret u => obtain ⟨_, _, _, S6, r6, q6⟩ := hq; exact last S6 fun _ J7 => ⟨_, _, _, J7, r6, q6⟩
    exact each hn w
  · cases f with
    | next => obtain ⟨σ', H', J', q⟩ := hsp; exact wpAny_execs_nil ⟨σ', H', J'.ofTry ok, q⟩
    | brk => obtain ⟨σ', H', J', q⟩ := hsp; exact ⟨σ', H', J'.ofTry ok, q⟩
    | cont => obtain ⟨σ', H', J', q⟩ := hsp; exact ⟨σ', H', J'.ofTry ok, q⟩
    | ret u => obtain ⟨v, σ', H', J', r, q⟩ := hsp; exact ⟨v, σ', H', J'.ofTry ok, r, q⟩⟩
end
/-- the clauses, one behind the other -/
def catchD : List (Nat × (Nat → Option Bool) × Ds) → Exn → List Sl → List D → Out
  | [], e, Γ, S => .exc e Γ S
  | (i, f, h) :: r, e, Γ, S => match f e.c with
    | some true => if noX Γ then unx (some i) (h (Γ.set i (.xcp e)) S) else .stuck
    | some false => catchD r e Γ S
    | none => .stuck
def sTryN (hs : List (Nat × (Nat → Option Bool) × Ds)) (b : Ds) : Ds := fun Γ S => match b Γ S with
  | .exc e Γ1 S1 => catchD hs e Γ1 S1
  | o => o
inductive CatchOk (X : Cx) (cls : Nat → Addr) : List ExceptHandler → List (Nat × (Nat → Option Bool) × Ds) → List (Value × Nat × TsA) → Prop
  | nil : CatchOk X cls [] [] []
  | cons {x n : Str} {CX : Addr} {i : Nat} {f : Nat → Option Bool} {δh : Ds} {b₀ : Stmt} {suite : List Stmt} {np pp : Pos} {hds : List ExceptHandler} {l : List (Nat × (Nat → Option Bool) × Ds)} {ll : List (Value × Nat × TsA)}
      (hi : X.N[i]? = some n) (hln : X.env.kindOf n = some .local) (hc : Names X x (.ref CX)) (hf : ∀ c b, f c = some b → PySem.W.exmOne X.K (.ref (cls (c + 3))) (.ref CX) = some b)
      (hsu : ∀ (a : Addr) (oe : Obj) (pn : List (Addr × Obj)) (cls' : Nat → Addr), Su cls cls' a oe → DSs (X.suite a ((a, oe) :: pn)) cls' W0 (b₀ :: suite) δh) (r : CatchOk X cls hds l ll) :
      CatchOk X cls (.ExceptHandler (some (.Name x np)) (some n) (b₀ :: suite) pp :: hds) ((i, f, δh) :: l) ((.ref CX, i, tsD X cls δh) :: ll)
theorem CatchOk.hd {X : Cx} {cls : Nat → Addr} {hds : List ExceptHandler} {l : List (Nat × (Nat → Option Bool) × Ds)} {ll : List (Value × Nat × TsA)} (h : CatchOk X cls hds l ll) : HdN X hds ll := by
  induction h with
  | nil => exact .nil
  | cons hi hln hc hf hsu r ih => exact .cons hc hi hln (fun a oe clsv d pn hz hf => PSs.given fun e => hsu a oe pn _ (su_of hz hf e)) ih
section
variable {X : Cx} {cls : Nat → Addr} {W : WX} {body : List Stmt} {g₀ : ExceptHandler} {hds : List ExceptHandler} {l : List (Nat × (Nat → Option Bool) × Ds)} {ll : List (Value × Nat × TsA)} {pos : Pos} {δb : Ds}
theorem catch_ok {en : Ent} {Dn : Ends} {e : Exn} {S1 : List D} {ρ1 : List Addr} {G1 H1 : Hp} {σ1 : L2.St} {clsv : Value} {dx : Option Addr} (h : CatchOk X cls hds l ll) : ∀ {Γ1 : List Sl}, SI ⟨X.K, cls⟩ en Γ1 S1 ρ1 G1 H1 σ1 → ExRep ⟨X.K, cls⟩ ρ1 G1 H1 e clsv dx → PostS ⟨X.K, cls⟩ W en Dn (catchD l e Γ1 S1) → wNm X.K W Dn ll clsv dx σ1 H1 := by
  induction h with
  | nil => exact fun s1 er p => p clsv dx ρ1 G1 H1 σ1 s1 er
  | @cons x n CX i f δh b₀ suite np pp hds l ll hi hln hc hf hsu r ih =>
    intro Γ1 s1 er p
    have ec : clsv = .ref (cls (e.c + 3)) := er.1
    unfold catchD at p
    cases hfe : f e.c with
    | none => rw [hfe] at p; exact p.elim
    | some b =>
      rw [hfe] at p
      refine ⟨b, by rw [ec]; exact hf _ _ hfe, fun hbt a na => ?_, fun hbf => ?_⟩
      · subst hbt
        simp only at p
        split at p
        · rename_i hx
          obtain ⟨z1, z2⟩ := xok_of (X := X) (a := a) er
          have s2 := (SI.re (C := ⟨X.K, cls⟩) (C' := ⟨X.K, xcls cls a dx clsv⟩) rfl (fun n => rfl) hx s1).setx i z2
          exact ⟨z1, en, _, S1, ρ1, G1, s2, try_core (C := ⟨X.K, cls⟩) (C' := ⟨X.K, xcls cls a dx clsv⟩) (oi := some i) rfl (fun n => rfl) (fun _ _ _ _ _ _ s => s.unset i) p⟩
        · exact p.elim
      · subst hbf
        exact ih s1 er p
theorem ds_try_named (sk : X.stack = X.env :: X.outer) (fr : X.env.frame = some X.env.locals) (nN : X.N.Nodup) (tk : Takes X W) (ck : CatchOk X cls (g₀ :: hds) l ll)
    (hb : ∀ (W : WX) (pn : List (Addr × Obj)) (xe : Value → Shared → Prop), Takes (X.tr pn xe) W → PassesOwn (model X.prog X.w) X.A X.env xe → DSs (X.tr pn xe) cls W body δb) : DS X cls W (.Try body (g₀ :: hds) [] [] pos) (sTryN l δb) :=
  PS.weak (ps_try_named (tb := fun W => tS ⟨X.K, cls⟩ W δb) sk fr nN tk hb ck.hd) fun Dn σ H ⟨en, Γ, S, ρ, G, s, p⟩ => ⟨en, Γ, S, ρ, G, s, by
    unfold sTryN at p
    cases q : δb Γ S with
    | exc e Γ1 S1 => rw [q] at p; exact fun clsv dx ρ1 G1 H1 σ1 s1 er => catch_ok ck s1 er p
    | next Γ1 S1 => rw [q] at p; exact p
    | brk Γ1 S1 => rw [q] at p; exact p
    | cont Γ1 S1 => rw [q] at p; exact p
    | ret d S1 => rw [q] at p; exact p
    | stuck => rw [q] at p; exact p⟩
end
end DL

namespace DL
open PySem PySem.Spec PyProof.Rows L2
/-! ### x in d, d a dict or not -/
def cInK (a b : D) : Option D := match keyD a, b with
  | some q, .dct ks xs => some (.bl (dGet ks xs q).isSome)
  | _, _ => none
def cNotInK (a b : D) : Option D := match keyD a, b with
  | some q, .dct ks xs => some (.bl (!(dGet ks xs q).isSome))
  | _, _ => none
def cInA (a b : D) : Option D := if isDct b = true then cInK a b else cIn a b
def cNotInA (a b : D) : Option D := if isDct b = true then cNotInK a b else cNotIn a b
theorem keyD_rt {C : Cn} {ρ : List Addr} {G H : Hp} {d : D} {k : Key} {v : V} (h : keyD d = some k) (r : RT C ρ G H d v) : v = kV k := by
  cases d <;> try cases h
  · rw [rt_int] at r; subst r; rfl
  · rw [rt_str] at r; subst r; rfl
theorem isSome_of {C : Cn} {ρ : List Addr} {G : Hp} {ks : List Key} {xs : List D} {q : Key} {o : Option V} (k : match dGet ks xs q with
    | some d => ∃ v, o = some v ∧ Rep C ρ G d v
    | none => o = none) : o.isSome = (dGet ks xs q).isSome := by
  cases z : dGet ks xs q with
  | some d => rw [z] at k; obtain ⟨v, rfl, _⟩ := k; rfl
  | none => rw [z] at k; rw [k]; rfl
theorem ok_inK {C : Cn} : R2Ok C (RS C) (fun x y H Q => ∃ a o, y = .ref a ∧ DGet H a x o ∧ Q (.bl o.isSome) H) cInK := fun S ρ G H x y d dx dy Q m rx ry e q => by
  unfold cInK at e
  split at e
  · rename_i kk ks xs hk
    cases e
    obtain ⟨a, vs, rfl, h1, hl, rr⟩ := ry
    obtain ⟨o, g, k⟩ := dget_rt h1 hl rr kk
    have ex := keyD_rt hk rx
    subst ex
    exact ⟨a, o, rfl, g, by rw [isSome_of k]; exact q _ _ _ _ m .refl (rep_bl.mpr rfl)⟩
  · cases e
theorem ok_notInK {C : Cn} : R2Ok C (RS C) (fun x y H Q => ∃ a o, y = .ref a ∧ DGet H a x o ∧ Q (.bl (!o.isSome)) H) cNotInK := fun S ρ G H x y d dx dy Q m rx ry e q => by
  unfold cNotInK at e
  split at e
  · rename_i kk ks xs hk
    cases e
    obtain ⟨a, vs, rfl, h1, hl, rr⟩ := ry
    obtain ⟨o, g, k⟩ := dget_rt h1 hl rr kk
    have ex := keyD_rt hk rx
    subst ex
    exact ⟨a, o, rfl, g, by rw [isSome_of k]; exact q _ _ _ _ m .refl (rep_bl.mpr rfl)⟩
  · cases e
section
variable {X : Cx} {cls : Nat → Addr} {W : WX} {a b e o : Expr} {δa δb δo ε ε1 ε2 : De} {pos pos' p apos cpos : Pos}
theorem op_din (hu : X.A.units + 1 < cLine) : OpR X (compareOp .In) (fun x y H Q => ∃ a o, y = .ref a ∧ DGet H a x o ∧ Q (.bl o.isSome) H) := by
  intro pins s σ H x y v u Q I rx ry h
  obtain ⟨b, o, rfl, g, q⟩ := h
  cases ry
  exact d_in hu I g rx fun s3 I3 => ⟨.bl o.isSome, H, I3, rfl, q⟩
theorem op_dnotin (hu : X.A.units + 1 < cLine) : OpR X (compareOp .NotIn) (fun x y H Q => ∃ a o, y = .ref a ∧ DGet H a x o ∧ Q (.bl (!o.isSome)) H) := by
  intro pins s σ H x y v u Q I rx ry h
  obtain ⟨b, o, rfl, g, q⟩ := h
  cases ry
  exact d_notIn hu I g rx fun s3 I3 => ⟨.bl (!o.isSome), H, I3, rfl, q⟩
theorem cInA_or : ∀ a b d, cInA a b = some d → cIn a b = some d ∨ cInK a b = some d := fun a b d h => by
  unfold cInA at h; split at h
  · exact .inr h
  · exact .inl h
theorem cNotInA_or : ∀ a b d, cNotInA a b = some d → cNotIn a b = some d ∨ cNotInK a b = some d := fun a b d h => by
  unfold cNotInA at h; split at h
  · exact .inr h
  · exact .inl h
theorem dt_inA (hu : X.A.units + 1 < cLine) (ha : DO X cls W a δa) (hb : DO X cls W b δb) (hm : behindInMarks .In b = false) : DT X cls W (.Compare a [.In] [b] pos) (tB (eOp cInA δa δb)) := dt_cmp (or_in.or (op_din hu)) (ok_in.or ok_inK cInA_or) ha hb hm
theorem dt_notInA (hu : X.A.units + 1 < cLine) (ha : DO X cls W a δa) (hb : DO X cls W b δb) (hm : behindInMarks .NotIn b = false) : DT X cls W (.Compare a [.NotIn] [b] pos) (tB (eOp cNotInA δa δb)) := dt_cmp (or_notIn.or (op_dnotin hu)) (ok_notIn.or ok_notInK cNotInA_or) ha hb hm
theorem de_inA (hu : X.A.units + 1 < cLine) (ha : DO X cls W a δa) (hb : DO X cls W b δb) (hm : behindInMarks .In b = false) : DE X cls W (.Compare a [.In] [b] pos) (eOp cInA δa δb) := de_cmp (or_in.or (op_din hu)) (ok_in.or ok_inK cInA_or) ha hb hm
theorem de_notInA (hu : X.A.units + 1 < cLine) (ha : DO X cls W a δa) (hb : DO X cls W b δb) (hm : behindInMarks .NotIn b = false) : DE X cls W (.Compare a [.NotIn] [b] pos) (eOp cNotInA δa δb) := de_cmp (or_notIn.or (op_dnotin hu)) (ok_notIn.or ok_notInK cNotInA_or) ha hb hm
/-! ### list(d), dict(d) -/
def dListA (d : D) : Option D := match d with
  | .dct ks _ => some (.lst (ks.map keyK))
  | d => dList d
theorem keys_rep {C : Cn} {ρ : List Addr} {G : Hp} : ∀ ks : List Key, Reps C ρ G (ks.map keyK) (ks.map kV)
  | [] => .nil
  | k :: ks => .cons (keyK_rep k) (keys_rep ks)
theorem rc_listA {C : Cn} : RC1 C (RF C) (fun xs H Q => (∃ p ys, xs = [.ref p] ∧ (SqL C.K H p ys ∨ SqT C.K H p ys) ∧ ∀ l, H l = none → Q (.ref l) (upd H l (.lst ys))) ∨ ∃ (a : Addr) (kvs : List (Key × V)), xs = [.ref a] ∧ Rd H a (.dK kvs) ∧ ∀ p, H p = none → Q (.ref p) (upd H p (.lst (kvs.map fun kv => kV kv.1)))) dListA := fun S ρ G H x d dx Q m rx e q => by
  unfold dListA at e
  split at e
  · rename_i ks xs
    cases e
    obtain ⟨a, vs, rfl, h1, hl, rr⟩ := rx
    refine .inr ⟨a, _, rfl, h1, fun l hlp => ?_⟩
    have e2 : ((ks.zip vs).map fun kv => kV kv.1) = ks.map kV := by
      have : (fun kv : Key × V => kV kv.1) = kV ∘ Prod.fst := rfl
      rw [this, ← List.map_map, List.map_fst_zip (by rw [hl, rr.length]; exact Nat.le_refl _)]
    rw [e2]
    obtain ⟨m2, n2, r⟩ := x_new m (keys_rep (C := C) (ρ := ρ) (G := G) ks) hlp
    exact q _ _ _ _ m2 n2 r
  · exact .inl (rc_list S ρ G H x d dx Q m rx e q)
theorem df_listA (hg : Gl X "list") (hm : X.mg "list" = none) (hc : X.calm = true) (ha : DO X cls W a δa) (he : starEach [a] X.env = (false, eval a X.env) :: starEach [] X.env := by rfl) (hpl : (backTo pos (starEach [] X.env)).any (·.1) = false := by rfl) : DF X cls W (.Call (.Name "list" p) [a] [] pos) (eUn dListA δa) :=
  x_c1 back_RF (pe_callTy (call_list_of.or (call_listD hc)) hg hm (by decide +kernel) (da1 ha he) (by decide) (by decide) he hpl) rc_listA
def dDictA (d : D) : Option D := match d with
  | .dct ks xs => some (.dct ks xs)
  | d => dDict d
theorem rc_dictA {C : Cn} : RC1 C (RF C) (fun xs H Q => (∃ (a : Addr) (ps : List Addr) (kvs : List (Key × V)), xs = [.ref a] ∧ SqL C.K H a (ps.map V.ref) ∧ Paired (fun p kv => SqT C.K H p [kV kv.1, kv.2]) ps kvs ∧ ∀ p, H p = none → Q (.ref p) (upd H p (.dK (mergeK [] kvs)))) ∨
    ∃ (a : Addr) (kvs : List (Key × V)), xs = [.ref a] ∧ Rd H a (.dK kvs) ∧ ∀ p, H p = none → Q (.ref p) (upd H p (.dK kvs))) dDictA := fun S ρ G H x d dx Q m rx e q => by
  unfold dDictA at e
  split at e
  · rename_i ks xs
    cases e
    obtain ⟨a, vs, rfl, h1, hl, rr⟩ := rx
    refine .inr ⟨a, _, rfl, h1, fun p hp => ?_⟩
    obtain ⟨m', n', np, gp⟩ := m.new (o := .dK (ks.zip vs)) hp
    exact q (.ref p) ρ G _ m' n' ⟨p, rfl, np, hp, gp, vs, upd_same, hl, rr⟩
  · exact .inl (rc_dict S ρ G H x d dx Q m rx e q)
theorem df_dictA (hg : Gl X "dict") (hm : X.mg "dict" = none) (hc : X.calm = true) (ha : DO X cls W a δa) (he : starEach [a] X.env = (false, eval a X.env) :: starEach [] X.env := by rfl) (hpl : (backTo pos (starEach [] X.env)).any (·.1) = false := by rfl) : DF X cls W (.Call (.Name "dict" p) [a] [] pos) (eUn dDictA δa) :=
  x_c1 back_RF (pe_callTy ((call_dictP hc).or call_dictD) hg hm (by decide +kernel) (da1 ha he) (by decide) (by decide) he hpl) rc_dictA
/-! ### v = d.pop(k), d a slot's own; d.pop(k, x), d in the store -/
def sPopO (i j : Nat) (k : De) : Ds := fun Γ S => match Γ[j]? with
  | some (.own (.dct _ _)) => after (k Γ S) Γ fun y S1 => match Γ[j]?, keyD y with
    | some (.own (.dct ks xs)), some q => match dGet ks xs q with
      | some d => .next ((Γ.set j (.own (.dct (dDropX q ks xs).1 (dDropX q ks xs).2))).set i (.val d)) S1
      | none => .stuck
    | _, _ => .stuck
  | _ => .stuck
theorem ds_popO {i : Nat} {x : Str} {pos' : Pos} (j : Nat) (hN : X.N.Nodup) (hi : X.N[i]? = some x) (hx : Loc X.env.scope x) (ho : PE X o (tVar j)) (hk : DE X cls W e ε) (m : M1 X o "pop" apos e cpos) (hs : swapsWith (.Call (.Attribute o "pop" apos) [e] [] cpos) (some (.Name x pos')) pos.line X.env = pure false := by rfl)
    (hf : X.fn x = true ∨ X.env.scope.names.lookup x = some .local := by first | exact .inl rfl | exact .inr rfl | assumption) : DS X cls W (.Assign [.Name x pos'] (.Call (.Attribute o "pop" apos) [e] [] cpos) pos) (sPopO i j ε) :=
  PS.weak (ps_set hN hi hx (pe_dpop1 ho hk m) hs hf) fun Dn σ H ⟨en, Γ, S, ρ, G, s, p⟩ => by
    unfold sPopO at p
    split at p
    · rename_i ks0 xs0 hj
      obtain ⟨b, vs0, e1, h1, _, r, g, n⟩ := own_dct s hj
      refine ⟨_, e1, b, rfl, .inl ⟨_, .inl h1⟩, Γ, S, ρ, G, s.mem, post_after s p fun dy S1 ρ1 G1 H1 y m1 n1 s1 r1 p1 => ?_⟩
      split at p1
      · rename_i ks xs q hj2 hq
        obtain ⟨b', vs, e', h1', hl', r', g', n'⟩ := own_dct s1 hj2
        rw [e1] at e'; cases e'
        split at p1
        · rename_i d hd
          have ek := keyD_v hq r1
          subst ek
          have z := dGet_val r' hl' q
          rw [hd] at z
          obtain ⟨v, ev, rv⟩ := z
          obtain ⟨us, d1, d2, d3⟩ := drop_zip q r' hl'
          exact ⟨_, q, v, h1', rfl, ev, p1 _ _ _ _ ((s1.poke (d' := .dct (dDropX q ks xs).1 (dDropX q ks xs).2) (o := .dK (dropK (ks.zip vs) q)) hj2 e1 ⟨us, by rw [upd_same, d1], d2, d3⟩).setv i rv)⟩
        · exact p1.elim
      · exact p1.elim
    · exact p.elim
def sPop2P (o k x : De) : Ds := fun Γ S => after (o Γ S) Γ fun v S1 => if isDct (deref S1 v) = true then after (k Γ S1) Γ fun y S2 => after (x Γ S2) Γ fun _ S3 => match v with
  | .ptr q => match S3[q]?, keyD y with
    | some (.dct ks xs), some kk => if (dGet ks xs kk).isSome = true then .next Γ (S3.set q (.dct (dDropX kk ks xs).1 (dDropX kk ks xs).2)) else .next Γ S3
    | _, _ => .stuck
  | _ => .stuck else .stuck
theorem ds_pop2P {f : Expr} (ho : DE X cls W o δo) (hk : DE X cls W e ε1) (hf : DE X cls W f ε2) (m : M2 X o "pop" apos e f cpos) (hs : swapsWith (.Call (.Attribute o "pop" apos) [e, f] [] cpos) none pos.line X.env = pure false := by rfl) :
    DS X cls W (.Expr (.Call (.Attribute o "pop" apos) [e, f] [] cpos) pos) (sPop2P δo ε1 ε2) := PS.weak (ps_expr (pe_dpop2 ho hk hf m) hs) fun Dn σ H ⟨en, Γ, S, ρ, G, s, p⟩ =>
  ⟨Γ, S, ρ, G, s.mem, post_after s p fun dv S1 ρ1 G1 H1 v m1 n1 s1 r1 p1 => by
    split at p1
    · rename_i hd
      obtain ⟨b, rfl, isd⟩ := isDct_rt hd (m1.read (H0 := H1) (.inl r1))
      refine ⟨b, rfl, isd, Γ, S1, ρ1, G1, s1.mem, post_after s1 p1 fun dy S2 ρ2 G2 H2 y m2 n2 s2 r2 p2 => ⟨Γ, S2, ρ2, G2, s2.mem, post_after s2 p2 fun dx S3 ρ3 G3 H3 x m3 n3 s3 r3 p3 => ?_⟩⟩
      split at p3
      · rename_i q
        split at p3
        · rename_i ks xs kk hx hkk
          obtain ⟨a, vs, e1, ha, h1, hl, rr⟩ := sto_dct m3 ((Rep.mono n2.ext n2.pre _ _ r1).mono n3.ext n3.pre) hx
          cases e1
          have ek := keyD_v hkk (r2.mono n3.ext n3.pre)
          subst ek
          have vz := valV_some rr hl kk
          refine ⟨_, kk, h1, rfl, fun w hw => ?_, fun hw => ?_⟩
          · rw [if_pos (by rw [← vz, hw]; rfl)] at p3
            obtain ⟨us, d1, d2, d3⟩ := drop_zip kk rr hl
            obtain ⟨m4, n4⟩ := m3.poke (a := b) (o := .dK (dropK (ks.zip vs) kk)) (d' := .dct (dDropX kk ks xs).1 (dDropX kk ks xs).2) hx ha ⟨us, by rw [upd_same, d1], d2, d3⟩
            exact p3 _ _ _ _ (s3.step m4 n4)
          · rw [if_neg (by rw [← vz, hw]; simp)] at p3
            exact p3 _ _ _ _ s3
        · exact p3.elim
      · exact p3.elim
    · exact p1.elim⟩
end
/-! ### for x in xs[-1], a dict -/
def iKL (i : Nat) : Da := fun Γ S => match Γ[i]? with
  | some (.val (.ptr q)) => match S[q]? with
    | some (.lst ds) => match ds.getLast? with
      | some (.dct ks _) => .ok (ks.map keyK) S
      | _ => .stuck
    | _ => .stuck
  | _ => .stuck
def LkL (i : Nat) (σ : L2.St) (H : Hp) : Prop := ∃ a vs d od kvs, σ[i]? = some (some (V.ref a)) ∧ H a = some (.lst vs) ∧ atI vs (-1) = some (V.ref d) ∧ H d = some (.frz od (.dK kvs))
section
variable {X : Cx} {cls : Nat → Addr} {W : WX} {tg : Expr} {x : Str} {p0 p1 p2 p3 pos : Pos} {k0 : Nat}
theorem atI_neg1' {α : Type} {xs : List α} : atI xs (-1) = xs.getLast? := by
  unfold atI ixN
  rw [if_neg (by omega)]
  by_cases h : 0 < xs.length
  · rw [if_pos (by omega)]
    have : (-1 + (xs.length : Int)).toNat = xs.length - 1 := by omega
    simp [this, List.getLast?_eq_getElem?]
  · have : xs = [] := List.eq_nil_of_length_eq_zero (by omega)
    subst this; rfl
/-- what the list's last dict is -/
theorem last_dct {C : Cn} {Γ : List Sl} {S : List D} {ρ : List Addr} {G H : Hp} {σ : L2.St} (m : Mem C Γ S ρ G H σ) {i q : Nat} {ds : List D} {ks : List Key} {xs : List D} (h1 : Γ[i]? = some (.val (.ptr q))) (h2 : S[q]? = some (.lst ds)) (h3 : ds.getLast? = some (.dct ks xs)) :
    ∃ a vs d ws, σ[i]? = some (some (V.ref a)) ∧ H a = some (.lst vs) ∧ atI vs (-1) = some (V.ref d) ∧ G d = some (.dK (ks.zip ws)) ∧ ks.length = ws.length ∧ a ∈ ρ := by
  obtain ⟨v, e, r⟩ := m.val i _ h1
  obtain ⟨a, vs, rfl, ha, hH, rr⟩ := sto_at m r h2
  have z : atI ds (-1) = some (.dct ks xs) := by rw [← h3]; exact atI_neg1'
  obtain ⟨w, hw, rw'⟩ := atI_reps rr z
  rw [Rep] at rw'
  obtain ⟨d, ws, rfl, g, l, r2⟩ := rw'
  exact ⟨a, vs, d, ws, e, hH, hw, g, l.trans r2.length, List.mem_of_getElem? ha⟩
theorem pi_kL (i : Nat) (hN : X.N[i]? = some x := by rfl) (hv : Vis X.env.scope x := by first | exact Or.inl rfl | exact Or.inr (Or.inl rfl) | exact Or.inr (Or.inr rfl)) (hd : (x == ("__debug__" : Str)) = false := by decide)
    (hcd : (x == ("__classdict__" : Str)) = false := by decide) : PI X tg (.Subscript (.Name x p0) (.UnaryOp .USub (.Constant (.int 1) k0 p1) p2) p3) (fun σ H R => LkL i σ H ∧ tI ⟨X.K, cls⟩ W (iKL i) σ H R) := PI.weak (pi_keys (pe_ix ix_seq (pv i hN hv hd hcd) (pe_un un_neg pe_int) (fun _ _ => rfl))) fun σ H R ⟨⟨a, vs, d, od, kvs, e, hl, hat, hfz⟩, Γ, S, ρ, G, m, q⟩ => by
  unfold iKL at q
  split at q
  · rename_i xs S1 z
    split at z
    · rename_i qq h1
      split at z
      · rename_i ds h2
        split at z
        · rename_i ks xs' h3
          cases z
          obtain ⟨a', vs', d', ws, e', hl', hat', g, l2, _⟩ := last_dct m h1 h2 h3
          rw [e] at e'; cases e'
          rw [hl] at hl'; cases hl'
          rw [hat] at hat'; cases hat'
          have hk := m.sub.dk g
          rcases hk with hk | ⟨ob, hk⟩
          · rw [hfz] at hk; cases hk
          · rw [hfz] at hk; cases hk
            refine ⟨_, e, _, rfl, ?_⟩
            exact .inl ⟨a, vs, -1, .ref d, rfl, rfl, SqL.of hl, hat, d, od, rfl, .inl ⟨_, hfz, q _ ρ G H m .refl (src_keys hfz rfl l2)⟩⟩
        · cases z
      · cases z
    · cases z
  · rename_i z
    split at z
    · split at z
      · split at z <;> cases z
      · cases z
    · cases z
  · exact q.elim
def sForKL (i : Nat) (p : Pat) (kl : List Nat) (β : Ds) : Ds := fun Γ S => noXc (sFor (iKL i) p kl β Γ S)
theorem ds_forKL {body : List Stmt} {p : Pat} {kl : List Nat} {β : Ds} (i : Nat) (hp : PassesOwn (model X.prog X.w) X.A X.env X.xe) (hc : X.calm = true) (hg : PG X tg (p.g X.K)) (hb : DSs X cls W body β)
    (hN : X.N[i]? = some x := by rfl) (hv : Vis X.env.scope x := by first | exact Or.inl rfl | exact Or.inr (Or.inl rfl) | exact Or.inr (Or.inr rfl)) (hd : (x == ("__debug__" : Str)) = false := by decide)
    (hcd : (x == ("__classdict__" : Str)) = false := by decide)
    (hs : ∀ y, foldedSetIterable (.Subscript (.Name x p0) (.UnaryOp .USub (.Constant (.int 1) k0 p1) p2) p3) X.env y = pure y := by intro _; rfl) : DS X cls W (.For tg (.Subscript (.Name x p0) (.UnaryOp .USub (.Constant (.int 1) k0 p1) p2) p3) body [] pos) (sForKL i p kl β) := by
  have base := ps_for (pos := pos) hp hc (pi_kL (cls := cls) (W := W) (p0 := p0) (p1 := p1) (p2 := p2) (p3 := p3) (k0 := k0) (tg := tg) i hN hv hd hcd) hg hb hs
  refine PS.weak (PS.or base (ps_lock base)) fun Dn σ H ⟨en, Γ, S, ρ, G, s, q⟩ => ?_
  unfold sForKL at q
  have nx : ∀ e Γ' S', sFor (iKL i) p kl β Γ S ≠ .exc e Γ' S' := fun e Γ' S' z => by rw [z] at q; exact q
  have q' : PostS ⟨X.K, cls⟩ W en Dn (sFor (iKL i) p kl β Γ S) := by
    cases z : sFor (iKL i) p kl β Γ S with
    | exc e Γ' S' => exact absurd z (nx e Γ' S')
    | _ => rw [z] at q; exact q
  obtain ⟨qq, ds, ks, xs, h1, h2, h3⟩ : ∃ qq ds ks xs, Γ[i]? = some (.val (.ptr qq)) ∧ S[qq]? = some (.lst ds) ∧ ds.getLast? = some (.dct ks xs) := by
    unfold sFor iKL at q'
    split at q'
    · rename_i qq h1
      split at q'
      · rename_i ds h2
        split at q'
        · rename_i ks xs h3; exact ⟨qq, ds, ks, xs, h1, h2, h3⟩
        · exact q'.elim
      · exact q'.elim
    · exact q'.elim
  obtain ⟨a, vs, d, ws, e1, hl, hat, g, l2, ar⟩ := last_dct s.mem h1 h2 h3
  have ne : a ≠ d := fun z => by have := s.mem.stG a ar; rw [z, g] at this; cases this
  rcases s.mem.sub.dk g with hk | ⟨od, hk⟩
  · refine .inr ⟨d, _, hk, trivial, fun od => ?_⟩
    obtain ⟨en', s', b1, b2⟩ := ent_lock s hk g od
    have q2 := post_lock (u := .dK (ks.zip ws)) rfl b1 b2 nx q'
    have := for_core s' q2
    exact ⟨⟨a, vs, d, od, _, e1, by rw [upd_ne ne]; exact hl, hat, upd_same⟩, this⟩
  · exact .inl ⟨⟨a, vs, d, od, _, e1, hl, hat, hk⟩, for_core s q'⟩
end
end DL

namespace DL
open PySem L2

/-! ### reckoning with denotations -/
section
variable {Γ : List Sl} {S : List D} {a b c : De} {t u : Dt} {α β : Da}
@[simp] theorem x_eV {i : Nat} : eV i Γ S = match Γ[i]? with | some (.val d) => .ok d S | _ => .stuck := Eq.trans rfl rfl
@[simp] theorem x_oV {i : Nat} : oV i Γ S = match Γ[i]? with | some (.val d) => .ok d S | some (.own d) => .ok d S | _ => .stuck := Eq.trans rfl rfl
@[simp] theorem x_eC {d : D} : eC d Γ S = .ok d S := Eq.trans rfl rfl
@[simp] theorem x_eOp {f : D → D → Option D} : eOp f a b Γ S = (a Γ S).bind fun x S1 => (b Γ S1).bind fun y S2 => ofO (f (deref S2 x) (deref S2 y)) S2 := Eq.trans rfl rfl
@[simp] theorem x_eUn {f : D → Option D} : eUn f a Γ S = (a Γ S).bind fun x S1 => ofO (f (deref S1 x)) S1 := Eq.trans rfl rfl
@[simp] theorem x_tB : tB a Γ S = (a Γ S).bind fun x S1 => ofO (asB x) S1 := Eq.trans rfl rfl
@[simp] theorem x_tTru : tTru a Γ S = (a Γ S).bind fun x S1 => ofO (dTruth (deref S1 x)) S1 := Eq.trans rfl rfl
@[simp] theorem x_tAnd : tAndD t u Γ S = (t Γ S).bind fun x S1 => if x then u Γ S1 else .ok false S1 := Eq.trans rfl rfl
@[simp] theorem x_tOr : tOrD t u Γ S = (t Γ S).bind fun x S1 => if x then .ok true S1 else u Γ S1 := Eq.trans rfl rfl
@[simp] theorem x_tNot : tNotD t Γ S = (t Γ S).bind fun x S1 => .ok (!x) S1 := Eq.trans rfl rfl
@[simp] theorem x_tTrue : tTrue Γ S = .ok true S := Eq.trans rfl rfl
@[simp] theorem x_eIf : eIf t a b Γ S = (t Γ S).bind fun x S1 => if x then a Γ S1 else b Γ S1 := Eq.trans rfl rfl
@[simp] theorem x_eAnd : eAnd a b Γ S = (a Γ S).bind fun x S1 => match asB x with | some true => b Γ S1 | some false => .ok (.bl false) S1 | none => .stuck := Eq.trans rfl rfl
@[simp] theorem x_eOr : eOr a b Γ S = (a Γ S).bind fun x S1 => match asB x with | some true => .ok (.bl true) S1 | some false => b Γ S1 | none => .stuck := Eq.trans rfl rfl
@[simp] theorem x_eNot : eNot a Γ S = (a Γ S).bind fun x S1 => match asB x with | some b => .ok (.bl (!b)) S1 | none => .stuck := Eq.trans rfl rfl
@[simp] theorem x_aNil : aNil Γ S = .ok [] S := Eq.trans rfl rfl
@[simp] theorem x_aCons : aCons a α Γ S = (a Γ S).bind fun x S1 => (α Γ S1).bind fun xs S2 => .ok (x :: xs) S2 := Eq.trans rfl rfl
@[simp] theorem x_eCall {F : List D → List D → Res D} : eCall F α Γ S = (α Γ S).bind fun ds S1 => F ds S1 := Eq.trans rfl rfl
@[simp] theorem x_eTup : eTup α Γ S = (α Γ S).bind fun ds S1 => .ok (.tup ds) S1 := Eq.trans rfl rfl
@[simp] theorem x_eLst : eLst α Γ S = (α Γ S).bind fun ds S1 => .ok (.lst ds) S1 := Eq.trans rfl rfl
@[simp] theorem x_eBox : eBox a Γ S = (a Γ S).bind fun d S1 => .ok (.ptr S1.length) (S1 ++ [d]) := Eq.trans rfl rfl
@[simp] theorem x_pNo : pNo Γ S = .ok none S := Eq.trans rfl rfl
@[simp] theorem x_pSo : pSo a Γ S = (a Γ S).bind fun x S1 => ofO ((asI x).map some) S1 := Eq.trans rfl rfl
@[simp] theorem x_eCut {f : D → Option Int → Option Int → Option D} {l h : Dp_} : eCut f a l h Γ S = (a Γ S).bind fun x S1 => (l Γ S1).bind fun l S2 => (h Γ S2).bind fun h S3 => ofO (f (deref S3 x) l h) S3 := Eq.trans rfl rfl
@[simp] theorem x_eComp {p : Pat} {vs : List Nat} : eComp α p vs t a Γ S = (α Γ S).bind fun xs S1 => (compD p t a xs (wipeD Γ vs) S1).bind fun ds S2 => ofO (lenOk ds) S2 := Eq.trans rfl rfl
@[simp] theorem x_iA : iA a Γ S = (a Γ S).bind fun x S1 => ofO (items x) S1 := Eq.trans rfl rfl
@[simp] theorem x_iR1 : iR1 a Γ S = (a Γ S).bind fun x S1 => match asI x with | some j => if inR j then .ok (rangeD 0 j.toNat) S1 else .stuck | none => .stuck := Eq.trans rfl rfl
@[simp] theorem x_iR2 : iR2 a b Γ S = (a Γ S).bind fun x S1 => (b Γ S1).bind fun y S2 => match asI x, asI y with | some i, some j => if inR i ∧ inR j then .ok (rangeD i (j - i).toNat) S2 else .stuck | _, _ => .stuck := Eq.trans rfl rfl
@[simp] theorem x_asB {k : Bool} : asB (.bl k) = some k := Eq.trans rfl rfl
@[simp] theorem x_asI {k : Int} : asI (.int k) = some k := Eq.trans rfl rfl
variable {s1 s2 : Ds}
@[simp] theorem x_sNext : sNext Γ S = .next Γ S := Eq.trans rfl rfl
@[simp] theorem x_sSeq : sSeq s1 s2 Γ S = match s1 Γ S with | .next Γ' S' => s2 Γ' S' | o => o := Eq.trans rfl rfl
@[simp] theorem x_sExpr : sExpr a Γ S = after (a Γ S) Γ fun _ S1 => .next Γ S1 := Eq.trans rfl rfl
@[simp] theorem x_sRet : sRet a Γ S = after (a Γ S) Γ fun d S1 => .ret d S1 := Eq.trans rfl rfl
@[simp] theorem x_sRetN : sRetN Γ S = .ret .non S := Eq.trans rfl rfl
@[simp] theorem x_sRetO {i : Nat} : sRetO i Γ S = match Γ[i]? with | some (.own d) => .ret d S | _ => .stuck := Eq.trans rfl rfl
@[simp] theorem x_sSet {i : Nat} : sSet i a Γ S = after (a Γ S) Γ fun d S1 => .next (Γ.set i (.val d)) S1 := Eq.trans rfl rfl
@[simp] theorem x_sOwn {i : Nat} : sOwn i a Γ S = after (a Γ S) Γ fun d S1 => .next (Γ.set i (.own d)) S1 := Eq.trans rfl rfl
@[simp] theorem x_sIf : sIf t s1 s2 Γ S = after (t Γ S) Γ fun k S1 => if k then s1 Γ S1 else s2 Γ S1 := Eq.trans rfl rfl
@[simp] theorem x_sBrk : sBrk Γ S = .brk Γ S := Eq.trans rfl rfl
@[simp] theorem x_sCont : sCont Γ S = .cont Γ S := Eq.trans rfl rfl
@[simp] theorem x_sClr {kl : List Nat} : sClr kl Γ S = .next (clr kl Γ) S := Eq.trans rfl rfl
@[simp] theorem x_sSettle {i : Nat} : sSettle i Γ S = match Γ[i]? with | some (.own d) => .next (Γ.set i (.val d)) S | _ => .stuck := Eq.trans rfl rfl
@[simp] theorem x_sAppO {i : Nat} : sAppO i a Γ S = match Γ[i]? with
  | some (.own (.lst xs)) => after (a Γ S) Γ fun d S1 => if xs.length < sizeLine then .next (Γ.set i (.own (.lst (xs ++ [d])))) S1 else .stuck
  | _ => .stuck := Eq.trans rfl rfl
@[simp] theorem x_sSetO {i : Nat} {k : De} : sSetO i k a Γ S = after (a Γ S) Γ fun d S1 => match Γ[i]? with
  | some (.own (.lst xs)) => after (k Γ S1) Γ fun x S2 => match (asI x).bind (ixN xs.length) with
    | some j => .next (Γ.set i (.own (.lst (xs.set j d)))) S2
    | none => .stuck
  | _ => .stuck := Eq.trans rfl rfl
@[simp] theorem x_sSetP {o k : De} : sSetP o k a Γ S = after (a Γ S) Γ fun d S1 => after (o Γ S1) Γ fun x S2 => after (k Γ S2) Γ fun y S3 => match x with
  | .ptr q => match S3[q]? with
    | some (.lst xs) => match (asI y).bind (ixN xs.length) with
      | some j => .next Γ (S3.set q (.lst (xs.set j d)))
      | none => .stuck
    | _ => .stuck
  | _ => .stuck := Eq.trans rfl rfl
@[simp] theorem x_sAug {i : Nat} {f : D → D → Option D} : sAug i f a Γ S = match Γ[i]? with
  | some (.val dx) => after (a Γ S) Γ fun dy S1 => match f (deref S1 dx) (deref S1 dy) with
    | some d => .next (Γ.set i (.val d)) S1
    | none => .stuck
  | _ => .stuck := Eq.trans rfl rfl
@[simp] theorem x_sBind {p : Pat} : sBind p a Γ S = after (a Γ S) Γ fun d S1 => match p.bind d Γ with | some Γ' => .next Γ' S1 | none => .stuck := Eq.trans rfl rfl
@[simp] theorem x_sFor {p : Pat} {kl : List Nat} : sFor α p kl s1 Γ S = after (α Γ S) Γ fun xs S1 => forD p kl s1 xs Γ S1 := Eq.trans rfl rfl
@[simp] theorem x_bodyRun {n : Nat} {ds : List D} : bodyRun n s1 ds S = match s1 (ds.map Sl.val ++ List.replicate (n - ds.length) Sl.non) S with
  | .next _ S' => .ok .non S'
  | .ret d S' => .ok d S'
  | .exc e _ S' => .exc e S'
  | _ => .stuck := Eq.trans rfl rfl
@[simp] theorem x_clr0 : clr [] Γ = Γ := Eq.trans rfl rfl
@[simp] theorem x_clr1 {i : Nat} {r : List Nat} : clr (i :: r) Γ = clr r (Γ.set i .non) := Eq.trans rfl rfl
@[simp] theorem x_wipe0 : wipeD Γ [] = Γ := Eq.trans rfl rfl
@[simp] theorem x_wipe1 {i : Nat} {r : List Nat} : wipeD Γ (i :: r) = (wipeD Γ r).set i .non := Eq.trans rfl rfl
@[simp] theorem x_bnm {i : Nat} {d : D} : (Pat.nm i).bind d Γ = some (Γ.set i (.val d)) := by rw [Pat.bind]
@[simp] theorem x_btp {ps : List Pat} {ds : List D} : (Pat.tp ps).bind (.tup ds) Γ = Pat.binds ps ds Γ := by rw [Pat.bind]
@[simp] theorem x_bs0 : Pat.binds [] [] Γ = some Γ := by rw [Pat.binds]
@[simp] theorem x_bs1 {p : Pat} {ps : List Pat} {d : D} {ds : List D} : Pat.binds (p :: ps) (d :: ds) Γ = match p.bind d Γ with | some Γ' => Pat.binds ps ds Γ' | none => none := by
  rw [Pat.binds]; try (cases p.bind d Γ <;> rfl)
end
@[simp] theorem deref_non {S : List D} : deref S .non = .non := Eq.trans rfl rfl
@[simp] theorem deref_bl {S : List D} {b : Bool} : deref S (.bl b) = .bl b := Eq.trans rfl rfl
@[simp] theorem deref_int {S : List D} {b : Int} : deref S (.int b) = .int b := Eq.trans rfl rfl
@[simp] theorem deref_str {S : List D} {b : Str} : deref S (.str b) = .str b := Eq.trans rfl rfl
@[simp] theorem deref_lst {S : List D} {b : List D} : deref S (.lst b) = .lst b := Eq.trans rfl rfl
@[simp] theorem deref_tup {S : List D} {b : List D} : deref S (.tup b) = .tup b := Eq.trans rfl rfl
@[simp] theorem deref_dct {S : List D} {k : List Key} {b : List D} : deref S (.dct k b) = .dct k b := Eq.trans rfl rfl
@[simp] theorem deref_ins {S : List D} {c : Nat} {k : List Str} {b : List D} : deref S (.ins c k b) = .ins c k b := Eq.trans rfl rfl
@[simp] theorem deref_scr {S : List D} {b : List Int} : deref S (.scr b) = .scr b := Eq.trans rfl rfl
@[simp] theorem deref_ptr {S : List D} {k : Nat} : deref S (.ptr k) = match S[k]? with | some d => d | none => .ptr k := Eq.trans rfl rfl
@[simp] theorem onI_int {P : Int → Int → Bool} {g : Int → Int → Int} {i j : Int} : onI P g (.int i) (.int j) = if P i j then some (.int (g i j)) else none := Eq.trans rfl rfl
@[simp] theorem dOrd_int {p : Int → Int → Bool} {q : Str → Str → Bool} {i j : Int} : dOrd p q (.int i) (.int j) = some (.bl (p i j)) := Eq.trans rfl rfl
@[simp] theorem dOrd_str {p : Int → Int → Bool} {q : Str → Str → Bool} {i j : Str} : dOrd p q (.str i) (.str j) = some (.bl (q i j)) := Eq.trans rfl rfl
@[simp] theorem dAdd_int {i j : Int} : dAdd (.int i) (.int j) = some (.int (i + j)) := Eq.trans rfl rfl
@[simp] theorem dAddI_int {i j : Int} : dAddI (.int i) (.int j) = some (.int (i + j)) := Eq.trans rfl rfl
theorem dAdd_tup {a b : List D} (h : a.length + b.length ≤ 1000000) : dAdd (.tup a) (.tup b) = some (.tup (a ++ b)) := if_pos (Nat.le_trans h (by decide))
theorem dAdd_lst {a b : List D} (h : a.length + b.length ≤ 1000000) : dAdd (.lst a) (.lst b) = some (.lst (a ++ b)) := if_pos (Nat.le_trans h (by decide))
theorem onL_lst {a b : List D} (h : a.length + b.length ≤ 1000000) : onL (.lst a) (.lst b) = some (.lst (a ++ b)) := if_pos (Nat.le_trans h (by decide))
theorem dMul_int {i j : Int} (h : -(2 ^ 64) < j ∧ j < 2 ^ 64) : dMul (.int i) (.int j) = some (.int (i * j)) := if_pos (.inr h)
theorem dMul_intl {i j : Int} (h : -(2 ^ 64) < i ∧ i < 2 ^ 64) : dMul (.int i) (.int j) = some (.int (i * j)) := if_pos (.inl h)
@[simp] theorem x_fPow_18 : fPow (.int 10) (.int 18) = some (.int P18) := fPow_18
@[simp] theorem dInt_int {i : Int} : dInt (.int i) = some (.int i) := Eq.trans rfl rfl
@[simp] theorem dInt_bl {b : Bool} : dInt (.bl b) = some (.int (if b then 1 else 0)) := Eq.trans rfl rfl
@[simp] theorem dNeg_int {i : Int} : dNeg (.int i) = some (.int (-i)) := Eq.trans rfl rfl
@[simp] theorem dLen_lst {xs : List D} : dLen (.lst xs) = some (.int xs.length) := Eq.trans rfl rfl
@[simp] theorem dLen_tup {xs : List D} : dLen (.tup xs) = some (.int xs.length) := Eq.trans rfl rfl
@[simp] theorem dLen_scr {xs : List Int} : dLen (.scr xs) = some (.int xs.length) := Eq.trans rfl rfl
@[simp] theorem dIdx_lst {xs : List D} {i : Int} : dIdx (.lst xs) (.int i) = atI xs i := Eq.trans rfl rfl
@[simp] theorem dIdx_tup {xs : List D} {i : Int} : dIdx (.tup xs) (.int i) = atI xs i := Eq.trans rfl rfl
@[simp] theorem dIdx_scr {xs : List Int} {i : Int} : dIdx (.scr xs) (.int i) = (atI xs i).map .int := Eq.trans rfl rfl
@[simp] theorem dTruth_non : dTruth .non = some false := Eq.trans rfl rfl
@[simp] theorem dTruth_bl {b : Bool} : dTruth (.bl b) = some b := Eq.trans rfl rfl
@[simp] theorem dTruth_int {b : Int} : dTruth (.int b) = some (b != 0) := Eq.trans rfl rfl
@[simp] theorem dTruth_lst {b : List D} : dTruth (.lst b) = some (!b.isEmpty) := Eq.trans rfl rfl
@[simp] theorem dTruth_tup {b : List D} : dTruth (.tup b) = some (!b.isEmpty) := Eq.trans rfl rfl
@[simp] theorem dTuple_lst {b : List D} : dTuple (.lst b) = some (.tup b) := Eq.trans rfl rfl
@[simp] theorem dTuple_tup {b : List D} : dTuple (.tup b) = some (.tup b) := Eq.trans rfl rfl
@[simp] theorem dList_lst {b : List D} : dList (.lst b) = some (.lst b) := Eq.trans rfl rfl
@[simp] theorem dList_tup {b : List D} : dList (.tup b) = some (.lst b) := Eq.trans rfl rfl
@[simp] theorem dCut_lst {b : List D} {l h : Option Int} : dCut (.lst b) l h = some (.lst (cutD b l h)) := Eq.trans rfl rfl
@[simp] theorem dCut_tup {b : List D} {l h : Option Int} : dCut (.tup b) l h = some (.tup (cutD b l h)) := Eq.trans rfl rfl
@[simp] theorem onlyL_lst {b : List D} {l h : Option Int} : onlyL (.lst b) l h = some (.lst (cutD b l h)) := Eq.trans rfl rfl
@[simp] theorem items_lst {b : List D} : items (.lst b) = some b := Eq.trans rfl rfl
@[simp] theorem items_tup {b : List D} : items (.tup b) = some b := Eq.trans rfl rfl
@[simp] theorem dIsi_tup {b : List D} : dIsi "tuple" (.tup b) = some (.bl true) := by unfold dIsi tyN; rfl
theorem inR_of {i : Int} (h : -(2 ^ 62) ≤ i ∧ i < 2 ^ 62) : inR i = true := decide_eq_true h
theorem lenOk_of {ds : List D} (h : ds.length ≤ 1000000) : lenOk ds = some (.lst ds) := if_pos (Nat.le_trans h (by decide))
theorem atI_get? {α : Type} {xs : List α} {k : Nat} : atI xs (k : Int) = xs[k]? := by
  unfold atI ixN
  by_cases h : k < xs.length
  · rw [if_pos (by omega), if_pos (by omega)]; simp
  · rw [if_pos (by omega), if_neg (by omega), List.getElem?_eq_none (by omega)]; rfl
theorem atI_neg1 {α : Type} {xs : List α} : atI xs (-1) = xs.getLast? := by
  unfold atI ixN
  rw [if_neg (by omega)]
  by_cases h : 0 < xs.length
  · rw [if_pos (by omega)]
    have : (-1 + (xs.length : Int)).toNat = xs.length - 1 := by omega
    simp [this, List.getLast?_eq_getElem?]
  · have : xs = [] := List.eq_nil_of_length_eq_zero (by omega)
    subst this; rfl

/-! ### by what is wanted -/
def WR {α : Type} (r : Res α) (Q : α → List D → Prop) : Prop := match r with | .ok a S => Q a S | _ => False
def WO (o : Out) (N : List Sl → List D → Prop) (R : D → List D → Prop) : Prop := match o with
  | .next Γ S => N Γ S
  | .ret d S => R d S
  | _ => False
/-- a loop's turn: what goes on, what is returned, what breaks -/
def WT (o : Out) (N : List Sl → List D → Prop) (R : D → List D → Prop) (B : List Sl → List D → Prop) : Prop := match o with
  | .next Γ S => N Γ S
  | .cont Γ S => N Γ S
  | .brk Γ S => B Γ S
  | .ret d S => R d S
  | _ => False
theorem WR.ok {α : Type} {r : Res α} {Q : α → List D → Prop} (h : WR r Q) : ∃ a S, r = .ok a S ∧ Q a S := by
  cases r with
  | ok a S => exact ⟨a, S, rfl, h⟩
  | exc _ _ => exact h.elim
  | stuck => exact h.elim
theorem WO.mono {o : Out} {N N' : List Sl → List D → Prop} {R R' : D → List D → Prop} (h : WO o N R) (h1 : ∀ Γ S, N Γ S → N' Γ S) (h2 : ∀ d S, R d S → R' d S) : WO o N' R' := by
  cases o with
  | next _ _ => exact h1 _ _ h
  | ret _ _ => exact h2 _ _ h
  | _ => exact h
theorem WT.mono {o : Out} {N N' B B' : List Sl → List D → Prop} {R R' : D → List D → Prop} (h : WT o N R B) (h1 : ∀ Γ S, N Γ S → N' Γ S) (h2 : ∀ d S, R d S → R' d S) (h3 : ∀ Γ S, B Γ S → B' Γ S) : WT o N' R' B' := by
  cases o with
  | next _ _ => exact h1 _ _ h
  | cont _ _ => exact h1 _ _ h
  | brk _ _ => exact h3 _ _ h
  | ret _ _ => exact h2 _ _ h
  | _ => exact h
theorem forD_wp {p : Pat} {kl : List Nat} {β : Ds} {R : D → List D → Prop} {N : List Sl → List D → Prop} (I : Nat → List Sl → List D → Prop) : ∀ (xs : List D) (i : Nat) (Γ : List Sl) (S : List D), I i Γ S →
    (∀ j x Γ S, xs[j]? = some x → I (i + j) Γ S → ∃ Γ1, p.bind x Γ = some Γ1 ∧ WT (β Γ1 S) (fun Γ2 S2 => I (i + j + 1) (clr kl Γ2) S2) R (fun Γ2 S2 => N (clr kl Γ2) S2)) →
    (∀ Γ S, I (i + xs.length) Γ S → N Γ S) → WO (forD p kl β xs Γ S) N R
  | [], i, Γ, S, h, _, he => he Γ S h
  | x :: xs, i, Γ, S, h, hs, he => by
    obtain ⟨Γ1, hb, hw⟩ := hs 0 x Γ S rfl h
    rw [forD, hb]
    simp only
    have next : ∀ Γ2 S2, I (i + 0 + 1) (clr kl Γ2) S2 → WO (forD p kl β xs (clr kl Γ2) S2) N R := fun Γ2 S2 k =>
      forD_wp I xs (i + 1) _ S2 k (fun j y Γ S hy hI => by
        have := hs (j + 1) y Γ S (by simpa using hy) (by rw [show i + (j + 1) = i + 1 + j by omega]; exact hI)
        rw [show i + (j + 1) + 1 = i + 1 + j + 1 by omega] at this
        exact this) (fun Γ S hI => he Γ S (by rw [List.length_cons, show i + (xs.length + 1) = i + 1 + xs.length by omega]; exact hI))
    cases z : β Γ1 S with
    | next Γ2 S2 => rw [z] at hw; exact next Γ2 S2 hw
    | cont Γ2 S2 => rw [z] at hw; exact next Γ2 S2 hw
    | brk Γ2 S2 => rw [z] at hw; exact hw
    | ret d S2 => rw [z] at hw; exact hw
    | exc _ _ _ => rw [z] at hw; exact hw.elim
    | stuck => rw [z] at hw; exact hw.elim
/-- a comprehension whose elements are told one by one -/
theorem compD_map {p : Pat} {ε : De} {Γ : List Sl} {I : List D → Prop} {P : Nat → D → D → Prop} : ∀ (xs : List D) (i : Nat) (S : List D), I S →
    (∀ j x S, xs[j]? = some x → I S → ∃ Γ1 d S', p.bind x Γ = some Γ1 ∧ ε Γ1 S = .ok d S' ∧ I S' ∧ P (i + j) x d) →
    ∃ ds S', compD p tTrue ε xs Γ S = .ok ds S' ∧ I S' ∧ ds.length = xs.length ∧ ∀ (j : Nat) x d, xs[j]? = some x → ds[j]? = some d → P (i + j) x d
  | [], i, S, h, _ => ⟨[], S, rfl, h, rfl, fun j x d hx => by simp at hx⟩
  | x :: xs, i, S, h, hs => by
    obtain ⟨Γ1, d, S1, hb, he, hI, hP⟩ := hs 0 x S rfl h
    obtain ⟨ds, S2, h1, h2, h3, h4⟩ := compD_map xs (i + 1) S1 hI fun j y S hy hI => by
      have := hs (j + 1) y S (by simpa using hy) hI
      rw [show i + (j + 1) = i + 1 + j by omega] at this
      exact this
    refine ⟨d :: ds, S2, ?_, h2, by rw [List.length_cons, List.length_cons, h3], fun j y e hy hd => ?_⟩
    · rw [compD, hb]
      simp [he, h1]
    · cases j with
      | zero => simp at hy hd; subst hy hd; exact hP
      | succ j =>
        have := h4 j y e (by simpa using hy) (by simpa using hd)
        rw [show i + 1 + j = i + (j + 1) by omega] at this
        exact this
/-- a comprehension whose element is a function of the item -/
theorem compD_pure {p : Pat} {ε : De} {Γ : List Sl} {S : List D} {f : D → D} : ∀ (xs : List D), (∀ x ∈ xs, ∃ Γ1, p.bind x Γ = some Γ1 ∧ ε Γ1 S = .ok (f x) S) → compD p tTrue ε xs Γ S = .ok (xs.map f) S
  | [], _ => rfl
  | x :: xs, h => by
    obtain ⟨Γ1, hb, he⟩ := h x List.mem_cons_self
    rw [compD, hb]
    simp [he, compD_pure xs fun y hy => h y (List.mem_cons_of_mem _ hy)]
theorem rangeD_len {lo : Int} {n : Nat} : (rangeD lo n).length = n := by unfold rangeD; simp
theorem rangeD_get {lo : Int} {n j : Nat} {x : D} (h : (rangeD lo n)[j]? = some x) : j < n ∧ x = .int (lo + j) := by
  unfold rangeD at h
  rw [List.getElem?_map] at h
  by_cases hj : j < n
  · rw [List.getElem?_range hj] at h; cases h; exact ⟨hj, rfl⟩
  · rw [List.getElem?_eq_none (by simp; omega)] at h; cases h
theorem rangeD_mem {lo : Int} {n : Nat} {x : D} (h : x ∈ rangeD lo n) : ∃ j : Nat, j < n ∧ x = .int (lo + j) := by
  obtain ⟨j, hj⟩ := List.mem_iff_getElem?.mp h
  exact ⟨j, rangeD_get hj⟩
end DL

namespace DL
open PySem L2

/-! ### == of data without ints, without truth values -/
mutual
def okI : D → Bool
  | .non => true
  | .bl _ => true
  | .int _ => false
  | .str x => PyData.canLay0 (.str x)
  | .lst xs => okIs xs
  | .tup xs => okIs xs
  | .dct _ _ => false
  | .ins _ _ _ => false
  | .ptr _ => false
  | .scr _ => false
def okIs : List D → Bool
  | [] => true
  | x :: xs => okI x && okIs xs
end
mutual
def okB : D → Bool
  | .non => true
  | .bl _ => false
  | .int _ => true
  | .str x => PyData.canLay0 (.str x)
  | .lst xs => okBs xs
  | .tup xs => okBs xs
  | .dct _ _ => false
  | .ins _ _ _ => false
  | .ptr _ => false
  | .scr _ => false
def okBs : List D → Bool
  | [] => true
  | x :: xs => okB x && okBs xs
end
mutual
def dep : D → Nat
  | .lst xs => deps xs + 1
  | .tup xs => deps xs + 1
  | .non => 0
  | .bl _ => 0
  | .int _ => 0
  | .str _ => 0
  | .dct _ _ => 0
  | .ins _ _ _ => 0
  | .ptr _ => 0
  | .scr _ => 0
def deps : List D → Nat
  | [] => 0
  | x :: xs => max (dep x) (deps xs)
end
/-! any data -/
mutual
def okD : D → Bool
  | .non => true
  | .bl _ => true
  | .int _ => true
  | .str x => PyData.canLay0 (.str x)
  | .lst xs => okDs xs
  | .tup xs => okDs xs
  | .dct _ _ => false
  | .ins _ _ _ => false
  | .ptr _ => false
  | .scr _ => false
def okDs : List D → Bool
  | [] => true
  | x :: xs => okD x && okDs xs
end
mutual
theorem okD_py : ∀ (d : D), okD d = true → ∃ p, toPy d = some p ∧ p.canLay0 = true ∧ p.depth = dep d
  | .non, _ => ⟨_, by rw [toPy], by rw [PyData.canLay0], by rw [PyData.depth, dep]⟩
  | .bl _, _ => ⟨_, by rw [toPy], by rw [PyData.canLay0], by rw [PyData.depth, dep]⟩
  | .int _, _ => ⟨_, by rw [toPy], by rw [PyData.canLay0], by rw [PyData.depth, dep]⟩
  | .str x, h => ⟨_, by rw [toPy], by rw [okD] at h; exact h, by rw [PyData.depth, dep]⟩
  | .lst xs, h => by
    rw [okD] at h
    obtain ⟨ps, e, c, d⟩ := okDs_py xs h
    exact ⟨.list ps, by rw [toPy, e]; rfl, by rw [PyData.canLay0]; exact c, by rw [PyData.depth, dep, d]⟩
  | .tup xs, h => by
    rw [okD] at h
    obtain ⟨ps, e, c, d⟩ := okDs_py xs h
    exact ⟨.tuple ps, by rw [toPy, e]; rfl, by rw [PyData.canLay0]; exact c, by rw [PyData.depth, dep, d]⟩
  | .dct _ _, h => by rw [okD] at h; cases h
  | .ins _ _ _, h => by rw [okD] at h; cases h
  | .ptr _, h => by rw [okD] at h; cases h
  | .scr _, h => by rw [okD] at h; cases h
theorem okDs_py : ∀ (ds : List D), okDs ds = true → ∃ ps, toPys ds = some ps ∧ PyData.canLayAll0 ps = true ∧ PyData.depthAll ps = deps ds
  | [], _ => ⟨[], by rw [toPys], by rw [PyData.canLayAll0], by rw [PyData.depthAll, deps]⟩
  | x :: xs, h => by
    rw [okDs, Bool.and_eq_true] at h
    obtain ⟨p, e1, c1, d1⟩ := okD_py x h.1
    obtain ⟨ps, e2, c2, d2⟩ := okDs_py xs h.2
    exact ⟨p :: ps, by rw [toPys, e1, e2]; rfl, by rw [PyData.canLayAll0, c1, c2]; rfl, by rw [PyData.depthAll, deps, d1, d2]⟩
end
mutual
theorem okI_D : ∀ (d : D), okI d = true → okD d = true
  | .non, _ => by rw [okD]
  | .bl _, _ => by rw [okD]
  | .int _, h => by rw [okI] at h; cases h
  | .str x, h => by rw [okI] at h; rw [okD]; exact h
  | .lst xs, h => by rw [okI] at h; rw [okD]; exact okIs_D xs h
  | .tup xs, h => by rw [okI] at h; rw [okD]; exact okIs_D xs h
  | .dct _ _, h => by rw [okI] at h; cases h
  | .ins _ _ _, h => by rw [okI] at h; cases h
  | .ptr _, h => by rw [okI] at h; cases h
  | .scr _, h => by rw [okI] at h; cases h
theorem okIs_D : ∀ (d : List D), okIs d = true → okDs d = true
  | [], _ => by rw [okDs]
  | x :: xs, h => by
    rw [okIs, Bool.and_eq_true] at h
    rw [okDs, okI_D x h.1, okIs_D xs h.2]; rfl
end
mutual
theorem okB_D : ∀ (d : D), okB d = true → okD d = true
  | .non, _ => by rw [okD]
  | .int _, _ => by rw [okD]
  | .bl _, h => by rw [okB] at h; cases h
  | .str x, h => by rw [okB] at h; rw [okD]; exact h
  | .lst xs, h => by rw [okB] at h; rw [okD]; exact okBs_D xs h
  | .tup xs, h => by rw [okB] at h; rw [okD]; exact okBs_D xs h
  | .dct _ _, h => by rw [okB] at h; cases h
  | .ins _ _ _, h => by rw [okB] at h; cases h
  | .ptr _, h => by rw [okB] at h; cases h
  | .scr _, h => by rw [okB] at h; cases h
theorem okBs_D : ∀ (d : List D), okBs d = true → okDs d = true
  | [], _ => by rw [okDs]
  | x :: xs, h => by
    rw [okBs, Bool.and_eq_true] at h
    rw [okDs, okB_D x h.1, okBs_D xs h.2]; rfl
end
/-- the comparison's answer, by the two readings -/
def peq (d e : D) : Bool := match toPy d, toPy e with | some p, some q => PyData.eqv p q | _, _ => false
def peqs (d e : List D) : Bool := match toPys d, toPys e with | some p, some q => PyData.eqvAll p q | _, _ => false
theorem dEq_peqm {d e : D} (h1 : okD d = true) (h2 : okD e = true) (k : min (dep d) (dep e) ≤ 64) : dEq d e = some (peq d e) := by
  obtain ⟨p, e1, c1, d1⟩ := okD_py d h1
  obtain ⟨q, e2, c2, d2⟩ := okD_py e h2
  rcases dEq_cases d e with ⟨a, b, rfl, rfl, z⟩ | z
  · rw [z]; unfold peq; simp [toPy, PyData.eqv]
  · rw [z]
    unfold dEqP peq
    simp [e1, e2, c1, c2, show min p.depth q.depth ≤ 64 by omega]
theorem dEq_peq {d e : D} (h1 : okD d = true) (h2 : okD e = true) (k1 : dep d ≤ 64) (k2 : dep e ≤ 64) : dEq d e = some (peq d e) := dEq_peqm h1 h2 (by omega)
theorem peq_tup {xs ys : List D} (h1 : okDs xs = true) (h2 : okDs ys = true) : peq (.tup xs) (.tup ys) = peqs xs ys := by
  obtain ⟨p, e1, _, _⟩ := okDs_py xs h1
  obtain ⟨q, e2, _, _⟩ := okDs_py ys h2
  unfold peq peqs
  rw [toPy, toPy, e1, e2]
  simp [PyData.eqv]
theorem peq_lst {xs ys : List D} (h1 : okDs xs = true) (h2 : okDs ys = true) : peq (.lst xs) (.lst ys) = peqs xs ys := by
  obtain ⟨p, e1, _, _⟩ := okDs_py xs h1
  obtain ⟨q, e2, _, _⟩ := okDs_py ys h2
  unfold peq peqs
  rw [toPy, toPy, e1, e2]
  simp [PyData.eqv]
theorem peqs_nil : peqs [] [] = true := by unfold peqs; simp [toPys, PyData.eqvAll]
theorem peqs_cons {x y : D} {xs ys : List D} (h1 : okD x = true) (h2 : okD y = true) (k1 : okDs xs = true) (k2 : okDs ys = true) : peqs (x :: xs) (y :: ys) = (peq x y && peqs xs ys) := by
  obtain ⟨p, e1, _, _⟩ := okD_py x h1
  obtain ⟨q, e2, _, _⟩ := okD_py y h2
  obtain ⟨ps, e3, _, _⟩ := okDs_py xs k1
  obtain ⟨qs, e4, _, _⟩ := okDs_py ys k2
  unfold peq peqs
  rw [toPys, toPys, e1, e2, e3, e4]
  simp [PyData.eqvAll]
theorem peqs_nc {y : D} {ys : List D} (h2 : okD y = true) (k2 : okDs ys = true) : peqs [] (y :: ys) = false := by
  obtain ⟨q, e2, _, _⟩ := okD_py y h2
  obtain ⟨qs, e4, _, _⟩ := okDs_py ys k2
  unfold peqs
  rw [toPys, toPys, e2, e4]
  simp [PyData.eqvAll]
theorem peqs_cn {y : D} {ys : List D} (h2 : okD y = true) (k2 : okDs ys = true) : peqs (y :: ys) [] = false := by
  obtain ⟨q, e2, _, _⟩ := okD_py y h2
  obtain ⟨qs, e4, _, _⟩ := okDs_py ys k2
  unfold peqs
  rw [toPys, toPys, e2, e4]
  simp [PyData.eqvAll]
theorem peq_bl {a b : Bool} : peq (.bl a) (.bl b) = (a == b) := by unfold peq; simp [toPy, PyData.eqv]
theorem peq_int {a b : Int} : peq (.int a) (.int b) = (a == b) := by unfold peq; simp [toPy, PyData.eqv]
theorem peq_str {a b : Str} : peq (.str a) (.str b) = (a == b) := by unfold peq; simp [toPy, PyData.eqv]
theorem peq_lt {xs ys : List D} : peq (.lst xs) (.tup ys) = false := by
  simp only [peq, toPy]; cases toPys xs <;> cases toPys ys <;> simp [PyData.eqv]
theorem peq_tl {xs ys : List D} : peq (.tup xs) (.lst ys) = false := by
  simp only [peq, toPy]; cases toPys xs <;> cases toPys ys <;> simp [PyData.eqv]
def flatI : D → Bool | .non => true | .bl _ => true | .int _ => true | .str _ => true | _ => false
theorem peq_lf {xs : List D} {e : D} (h : flatI e = true) : peq (.lst xs) e = false := by
  cases e <;> first | (cases h; done) | (simp only [peq, toPy]; cases toPys xs <;> simp [PyData.eqv])
theorem peq_tf {xs : List D} {e : D} (h : flatI e = true) : peq (.tup xs) e = false := by
  cases e <;> first | (cases h; done) | (simp only [peq, toPy]; cases toPys xs <;> simp [PyData.eqv])
theorem peq_fl {xs : List D} {e : D} (h : flatI e = true) : peq e (.lst xs) = false := by
  cases e <;> first | (cases h; done) | (simp only [peq, toPy]; cases toPys xs <;> simp [PyData.eqv])
theorem peq_ft {xs : List D} {e : D} (h : flatI e = true) : peq e (.tup xs) = false := by
  cases e <;> first | (cases h; done) | (simp only [peq, toPy]; cases toPys xs <;> simp [PyData.eqv])
mutual
theorem peq_I : ∀ (d e : D), okI d = true → okI e = true → (peq d e = true ↔ d = e)
  | .int _, _, h, _ => by rw [okI] at h; cases h
  | .dct _ _, _, h, _ => by rw [okI] at h; cases h
  | .ins _ _ _, _, h, _ => by rw [okI] at h; cases h
  | .ptr _, _, h, _ => by rw [okI] at h; cases h
  | .scr _, _, h, _ => by rw [okI] at h; cases h
  | .lst xs, .lst ys, h, k => by
    rw [okI] at h k
    rw [peq_lst (okIs_D _ h) (okIs_D _ k), peqs_I xs ys h k]; simp
  | .tup xs, .tup ys, h, k => by
    rw [okI] at h k
    rw [peq_tup (okIs_D _ h) (okIs_D _ k), peqs_I xs ys h k]; simp
  | .lst xs, .tup ys, h, k => by rw [peq_lt]; simp
  | .tup xs, .lst ys, h, k => by rw [peq_tl]; simp
  | .lst xs, e, h, k => by
    cases e <;> first | (rw [okI] at k; cases k; done) | (rw [peq_lf rfl]; simp; done) | (rw [peq_lt]; simp; done) | (rw [okI] at h k; rw [peq_lst (okIs_D _ h) (okIs_D _ k), peqs_I xs _ h k]; simp)
  | .tup xs, e, h, k => by
    cases e <;> first | (rw [okI] at k; cases k; done) | (rw [peq_tf rfl]; simp; done) | (rw [peq_tl]; simp; done) | (rw [okI] at h k; rw [peq_tup (okIs_D _ h) (okIs_D _ k), peqs_I xs _ h k]; simp)
  | .non, e, h, k => by
    cases e <;> first | (rw [okI] at k; cases k; done) | (rw [peq_fl rfl]; simp; done) | (rw [peq_ft rfl]; simp; done) | (simp [peq, toPy, PyData.eqv])
  | .bl _, e, h, k => by
    cases e <;> first | (rw [okI] at k; cases k; done) | (rw [peq_fl rfl]; simp; done) | (rw [peq_ft rfl]; simp; done) | (simp [peq, toPy, PyData.eqv])
  | .str _, e, h, k => by
    cases e <;> first | (rw [okI] at k; cases k; done) | (rw [peq_fl rfl]; simp; done) | (rw [peq_ft rfl]; simp; done) | (simp [peq, toPy, PyData.eqv])
theorem peqs_I : ∀ (d e : List D), okIs d = true → okIs e = true → (peqs d e = true ↔ d = e)
  | [], [], _, _ => by rw [peqs_nil]; simp
  | [], y :: ys, _, k => by
    rw [okIs, Bool.and_eq_true] at k
    rw [peqs_nc (okI_D _ k.1) (okIs_D _ k.2)]; simp
  | y :: ys, [], k, _ => by
    rw [okIs, Bool.and_eq_true] at k
    rw [peqs_cn (okI_D _ k.1) (okIs_D _ k.2)]; simp
  | x :: xs, y :: ys, h, k => by
    rw [okIs, Bool.and_eq_true] at h k
    rw [peqs_cons (okI_D _ h.1) (okI_D _ k.1) (okIs_D _ h.2) (okIs_D _ k.2), Bool.and_eq_true, peq_I x y h.1 k.1, peqs_I xs ys h.2 k.2]
    simp
end
mutual
theorem peq_B : ∀ (d e : D), okB d = true → okB e = true → (peq d e = true ↔ d = e)
  | .bl _, _, h, _ => by rw [okB] at h; cases h
  | .dct _ _, _, h, _ => by rw [okB] at h; cases h
  | .ins _ _ _, _, h, _ => by rw [okB] at h; cases h
  | .ptr _, _, h, _ => by rw [okB] at h; cases h
  | .scr _, _, h, _ => by rw [okB] at h; cases h
  | .lst xs, .lst ys, h, k => by
    rw [okB] at h k
    rw [peq_lst (okBs_D _ h) (okBs_D _ k), peqs_B xs ys h k]; simp
  | .tup xs, .tup ys, h, k => by
    rw [okB] at h k
    rw [peq_tup (okBs_D _ h) (okBs_D _ k), peqs_B xs ys h k]; simp
  | .lst xs, .tup ys, h, k => by rw [peq_lt]; simp
  | .tup xs, .lst ys, h, k => by rw [peq_tl]; simp
  | .lst xs, e, h, k => by
    cases e <;> first | (rw [okB] at k; cases k; done) | (rw [peq_lf rfl]; simp; done) | (rw [peq_lt]; simp; done) | (rw [okB] at h k; rw [peq_lst (okBs_D _ h) (okBs_D _ k), peqs_B xs _ h k]; simp)
  | .tup xs, e, h, k => by
    cases e <;> first | (rw [okB] at k; cases k; done) | (rw [peq_tf rfl]; simp; done) | (rw [peq_tl]; simp; done) | (rw [okB] at h k; rw [peq_tup (okBs_D _ h) (okBs_D _ k), peqs_B xs _ h k]; simp)
  | .non, e, h, k => by
    cases e <;> first | (rw [okB] at k; cases k; done) | (rw [peq_fl rfl]; simp; done) | (rw [peq_ft rfl]; simp; done) | (simp [peq, toPy, PyData.eqv])
  | .int _, e, h, k => by
    cases e <;> first | (rw [okB] at k; cases k; done) | (rw [peq_fl rfl]; simp; done) | (rw [peq_ft rfl]; simp; done) | (simp [peq, toPy, PyData.eqv])
  | .str _, e, h, k => by
    cases e <;> first | (rw [okB] at k; cases k; done) | (rw [peq_fl rfl]; simp; done) | (rw [peq_ft rfl]; simp; done) | (simp [peq, toPy, PyData.eqv])
theorem peqs_B : ∀ (d e : List D), okBs d = true → okBs e = true → (peqs d e = true ↔ d = e)
  | [], [], _, _ => by rw [peqs_nil]; simp
  | [], y :: ys, _, k => by
    rw [okBs, Bool.and_eq_true] at k
    rw [peqs_nc (okB_D _ k.1) (okBs_D _ k.2)]; simp
  | y :: ys, [], k, _ => by
    rw [okBs, Bool.and_eq_true] at k
    rw [peqs_cn (okB_D _ k.1) (okBs_D _ k.2)]; simp
  | x :: xs, y :: ys, h, k => by
    rw [okBs, Bool.and_eq_true] at h k
    rw [peqs_cons (okB_D _ h.1) (okB_D _ k.1) (okBs_D _ h.2) (okBs_D _ k.2), Bool.and_eq_true, peq_B x y h.1 k.1, peqs_B xs ys h.2 k.2]
    simp
end

/-- == of two such data -/
theorem dEq_I {d e : D} [Decidable (d = e)] (h1 : okI d = true) (h2 : okI e = true) (k1 : dep d ≤ 64) (k2 : dep e ≤ 64) : dEq d e = some (decide (d = e)) := by
  rw [dEq_peq (okI_D _ h1) (okI_D _ h2) k1 k2]
  congr 1
  rw [Bool.eq_iff_iff, peq_I d e h1 h2, decide_eq_true_iff]
theorem dEq_Bm {d e : D} [Decidable (d = e)] (h1 : okB d = true) (h2 : okB e = true) (k : min (dep d) (dep e) ≤ 64) : dEq d e = some (decide (d = e)) := by
  rw [dEq_peqm (okB_D _ h1) (okB_D _ h2) k]
  congr 1
  rw [Bool.eq_iff_iff, peq_B d e h1 h2, decide_eq_true_iff]
theorem dEq_B {d e : D} [Decidable (d = e)] (h1 : okB d = true) (h2 : okB e = true) (k1 : dep d ≤ 64) (k2 : dep e ≤ 64) : dEq d e = some (decide (d = e)) := dEq_Bm h1 h2 (by omega)
end DL

namespace DL
open PySem L2
@[simp] theorem x_sRevO {i : Nat} {Γ : List Sl} {S : List D} : sRevO i Γ S = match Γ[i]? with
  | some (.own (.lst xs)) => .next (Γ.set i (.own (.lst xs.reverse))) S
  | _ => .stuck := Eq.trans rfl rfl
@[simp] theorem dAbs_int {i : Int} : dAbs (.int i) = some (.int (if i < 0 then -i else i)) := Eq.trans rfl rfl
@[simp] theorem dMax_int {i j : Int} : dMax (.int i) (.int j) = some (.int (if j > i then j else i)) := Eq.trans rfl rfl
@[simp] theorem dMin_int {i j : Int} : dMin (.int i) (.int j) = some (.int (if j < i then j else i)) := Eq.trans rfl rfl
theorem asInts_map (l : List Int) : asInts (l.map D.int) = some l := by
  induction l with
  | nil => rfl
  | cons x r ih => rw [List.map_cons, asInts, ih]; rfl
theorem dSum_map (l : List Int) : dSum (.lst (l.map D.int)) = some (.int l.sum) := by
  show (asInts (l.map D.int)).map (fun l => D.int l.sum) = _; rw [asInts_map]; rfl
@[simp] theorem x_eChain {f g : D → D → Option D} {a b c : De} {Γ : List Sl} {S : List D} : eChain f g a b c Γ S = (a Γ S).bind fun x S1 => (b Γ S1).bind fun y S2 => (ofO (f (deref S2 x) (deref S2 y)) S2).bind fun k S3 => match asB k with
  | some true => (c Γ S3).bind fun z S4 => ofO (g (deref S4 y) (deref S4 z)) S4
  | some false => .ok (.bl false) S3
  | none => .stuck := Eq.trans rfl rfl
@[simp] theorem dEq_str {a b : Str} : dEq (.str a) (.str b) = some (a == b) := Eq.trans rfl rfl
@[simp] theorem cEq_str {a b : Str} : cEq (.str a) (.str b) = some (.bl (a == b)) := Eq.trans rfl rfl
@[simp] theorem cNe_str {a b : Str} : cNe (.str a) (.str b) = some (.bl (!(a == b))) := Eq.trans rfl rfl
theorem dEq_int' (a b : Int) : dEq (.int a) (.int b) = some (a == b) := by
  rw [dEq_peq (by rw [okD]) (by rw [okD]) (by rw [dep]; decide) (by rw [dep]; decide), peq_int]
theorem dEq_bl' (a b : Bool) : dEq (.bl a) (.bl b) = some (a == b) := by
  rw [dEq_peq (by rw [okD]) (by rw [okD]) (by rw [dep]; decide) (by rw [dep]; decide), peq_bl]
@[simp] theorem cEq_i2 (a b : Int) : cEq (.int a) (.int b) = some (.bl (a == b)) := by unfold cEq; rw [dEq_int']; rfl
@[simp] theorem cNe_i2 (a b : Int) : cNe (.int a) (.int b) = some (.bl (a != b)) := by unfold cNe; rw [dEq_int']; rfl
@[simp] theorem cEq_b2 (a b : Bool) : cEq (.bl a) (.bl b) = some (.bl (a == b)) := by unfold cEq; rw [dEq_bl']; rfl
@[simp] theorem cNe_b2 (a b : Bool) : cNe (.bl a) (.bl b) = some (.bl (a != b)) := by unfold cNe; rw [dEq_bl']; rfl
/-- a place drawn -/
theorem pick {xs : List D} {r : Int} (h0 : 0 ≤ r) (h1 : r < xs.length) : ∃ d ∈ xs, atI xs r = some d := by
  obtain ⟨k, rfl⟩ : ∃ k : Nat, r = (k : Int) := ⟨r.toNat, by omega⟩
  have hk : k < xs.length := by omega
  exact ⟨xs[k], List.getElem_mem hk, by rw [atI_get?, List.getElem?_eq_getElem hk]⟩
theorem pickS {xs : List Str} {r : Int} (h0 : 0 ≤ r) (h1 : r < xs.length) : ∃ x ∈ xs, atI (xs.map D.str) r = some (.str x) := by
  obtain ⟨d, hd, e⟩ := pick (xs := xs.map D.str) h0 (by rw [List.length_map]; exact h1)
  obtain ⟨x, hx, rfl⟩ := List.mem_map.mp hd
  exact ⟨x, hx, e⟩
theorem pickI {xs : List Int} {r : Int} (h0 : 0 ≤ r) (h1 : r < xs.length) : ∃ x ∈ xs, atI (xs.map D.int) r = some (.int x) := by
  obtain ⟨d, hd, e⟩ := pick (xs := xs.map D.int) h0 (by rw [List.length_map]; exact h1)
  obtain ⟨x, hx, rfl⟩ := List.mem_map.mp hd
  exact ⟨x, hx, e⟩
theorem dEq_same {d : D} (h : okB d = true) (k : dep d ≤ 64) : dEq d d = some true := by
  haveI : Decidable (d = d) := .isTrue rfl
  rw [dEq_B h h k k]
  exact congrArg some (decide_eq_true rfl)
end DL

namespace DL
open PySem L2
/-! ### messages as data -/
inductive Ky where
  | i (n : Int) | s (x : Str)
def eK : Ky → D
  | .i n => .int n
  | .s x => .str x
mutual
inductive Nd where
  | text (x : Str) | shw (n : Str) | num
  | sel (n : Str) (cs : List Cs) (o : List Nd)
  | plu (n : Str) (f : Int) (cs : List Cs) (o : List Nd)
inductive Cs where
  | mk (k : Ky) (m : List Nd)
end
mutual
def eN : Nd → D
  | .text x => .tup [.str "text", .str x]
  | .shw n => .tup [.str "show", .str n]
  | .num => .tup [.str "number"]
  | .sel n cs o => .tup [.str "select", .str n, .lst (eCs cs), .lst (eL o)]
  | .plu n f cs o => .tup [.str "plural", .str n, .int f, .lst (eCs cs), .lst (eL o)]
def eL : List Nd → List D
  | [] => []
  | n :: r => eN n :: eL r
def eC1 : Cs → D
  | .mk k m => .tup [eK k, .lst (eL m)]
def eCs : List Cs → List D
  | [] => []
  | c :: r => eC1 c :: eCs r
end
theorem eL_map (m : List Nd) : eL m = m.map eN := by
  induction m with
  | nil => rw [eL]; rfl
  | cons n r ih => rw [eL, ih]; rfl
theorem eCs_map (m : List Cs) : eCs m = m.map eC1 := by
  induction m with
  | nil => rw [eCs]; rfl
  | cons n r ih => rw [eCs, ih]; rfl
@[simp] theorem eL_nil : eL [] = [] := by rw [eL]
@[simp] theorem eCs_nil : eCs [] = [] := by rw [eCs]
@[simp] theorem eL_len (m : List Nd) : (eL m).length = m.length := by rw [eL_map, List.length_map]
@[simp] theorem eCs_len (m : List Cs) : (eCs m).length = m.length := by rw [eCs_map, List.length_map]
theorem eL_app (a b : List Nd) : eL (a ++ b) = eL a ++ eL b := by simp only [eL_map, List.map_append]
theorem eCs_app (a b : List Cs) : eCs (a ++ b) = eCs a ++ eCs b := by simp only [eCs_map, List.map_append]
theorem eCs_rev (a : List Cs) : (eCs a).reverse = eCs a.reverse := by simp only [eCs_map, List.map_reverse]
theorem eL_one (n : Nd) : eL [n] = [eN n] := by rw [eL, eL]
theorem eCs_one (n : Cs) : eCs [n] = [eC1 n] := by rw [eCs, eCs]
/-! ### what a message must be -/
def sOk (x : Str) : Bool := PyData.canLay0 (.str x)
def iOk (i : Int) : Bool := decide (i.natAbs < 2 ^ 64)
def kOk : Ky → Bool
  | .i n => iOk n
  | .s x => sOk x
mutual
def nOk : Nd → Bool
  | .text x => sOk x
  | .shw n => sOk n
  | .num => true
  | .sel n cs o => sOk n && csOk cs && lOk o
  | .plu n f cs o => sOk n && iOk f && csOk cs && lOk o
def lOk : List Nd → Bool
  | [] => true
  | n :: r => nOk n && lOk r
def cOk : Cs → Bool
  | .mk k m => kOk k && lOk m
def csOk : List Cs → Bool
  | [] => true
  | c :: r => cOk c && csOk r
end
/-! how deep -/
mutual
def nH : Nd → Nat
  | .sel _ cs o => max (csH cs) (lH o) + 1
  | .plu _ _ cs o => max (csH cs) (lH o) + 1
  | .text _ => 0
  | .shw _ => 0
  | .num => 0
def lH : List Nd → Nat
  | [] => 0
  | n :: r => max (nH n) (lH r)
def cH : Cs → Nat
  | .mk _ m => lH m
def csH : List Cs → Nat
  | [] => 0
  | c :: r => max (cH c) (csH r)
end
/-! how great -/
def kW : Ky → Nat
  | .i n => (toString n : Str).length
  | .s x => 10 * x.length + 2
mutual
def nW : Nd → Nat
  | .text x => 10 * x.length + 40
  | .shw n => 10 * n.length + 40
  | .num => 40
  | .sel n cs o => 10 * n.length + csW cs + lW o + 60
  | .plu n f cs o => 10 * n.length + (toString f : Str).length + csW cs + lW o + 60
def lW : List Nd → Nat
  | [] => 0
  | n :: r => nW n + lW r
def cW : Cs → Nat
  | .mk k m => kW k + lW m + 20
def csW : List Cs → Nat
  | [] => 0
  | c :: r => cW c + csW r
end
theorem lOk_app (a b : List Nd) : lOk (a ++ b) = (lOk a && lOk b) := by
  induction a with
  | nil => simp [lOk]
  | cons n r ih => rw [List.cons_append, lOk, lOk, ih, Bool.and_assoc]
theorem csOk_app (a b : List Cs) : csOk (a ++ b) = (csOk a && csOk b) := by
  induction a with
  | nil => simp [csOk]
  | cons n r ih => rw [List.cons_append, csOk, csOk, ih, Bool.and_assoc]
theorem lH_app (a b : List Nd) : lH (a ++ b) = max (lH a) (lH b) := by
  induction a with
  | nil => simp [lH]
  | cons n r ih => rw [List.cons_append, lH, lH, ih, Nat.max_assoc]
theorem csH_app (a b : List Cs) : csH (a ++ b) = max (csH a) (csH b) := by
  induction a with
  | nil => simp [csH]
  | cons n r ih => rw [List.cons_append, csH, csH, ih, Nat.max_assoc]
theorem lW_app (a b : List Nd) : lW (a ++ b) = lW a + lW b := by
  induction a with
  | nil => simp [lW]
  | cons n r ih => rw [List.cons_append, lW, lW, ih, Nat.add_assoc]
theorem csW_app (a b : List Cs) : csW (a ++ b) = csW a + csW b := by
  induction a with
  | nil => simp [csW]
  | cons n r ih => rw [List.cons_append, csW, csW, ih, Nat.add_assoc]
theorem nW_pos (n : Nd) : 40 ≤ nW n := by cases n <;> rw [nW] <;> omega
theorem cW_pos (n : Cs) : 20 ≤ cW n := by cases n; rw [cW]; omega
theorem lW_len (m : List Nd) : 40 * m.length ≤ lW m := by
  induction m with
  | nil => simp
  | cons n r ih => rw [lW, List.length_cons]; have := nW_pos n; omega
theorem csW_len (m : List Cs) : 20 * m.length ≤ csW m := by
  induction m with
  | nil => simp
  | cons n r ih => rw [csW, List.length_cons]; have := cW_pos n; omega
theorem kOk_B (k : Ky) (h : kOk k = true) : okB (eK k) = true := by
  cases k with
  | i n => rw [eK, okB]
  | s x => rw [eK, okB]; exact h
theorem kDep (k : Ky) : dep (eK k) = 0 := by cases k <;> rw [eK, dep]
theorem text_ok : PyData.canLay0 (.str "text") = true := by decide +kernel
theorem show_ok : PyData.canLay0 (.str "show") = true := by decide +kernel
theorem number_ok : PyData.canLay0 (.str "number") = true := by decide +kernel
theorem select_ok : PyData.canLay0 (.str "select") = true := by decide +kernel
theorem plural_ok : PyData.canLay0 (.str "plural") = true := by decide +kernel
mutual
theorem nOk_B : ∀ n : Nd, nOk n = true → okB (eN n) = true
  | .text x, h => by rw [nOk] at h; simp [eN, okB, okBs, text_ok]; exact h
  | .shw x, h => by rw [nOk] at h; simp [eN, okB, okBs, show_ok]; exact h
  | .num, _ => by simp [eN, okB, okBs, number_ok]
  | .sel n cs o, h => by
    rw [nOk, Bool.and_eq_true, Bool.and_eq_true] at h
    simp [eN, okB, okBs, select_ok, csOk_B cs h.1.2, lOk_B o h.2]; exact h.1.1
  | .plu n f cs o, h => by
    rw [nOk, Bool.and_eq_true, Bool.and_eq_true, Bool.and_eq_true] at h
    simp [eN, okB, okBs, plural_ok, csOk_B cs h.1.2, lOk_B o h.2]; exact h.1.1.1
theorem lOk_B : ∀ m : List Nd, lOk m = true → okBs (eL m) = true
  | [], _ => by rw [eL, okBs]
  | n :: r, h => by
    rw [lOk, Bool.and_eq_true] at h
    rw [eL, okBs, nOk_B n h.1, lOk_B r h.2]; rfl
theorem cOk_B : ∀ c : Cs, cOk c = true → okB (eC1 c) = true
  | .mk k m, h => by
    rw [cOk, Bool.and_eq_true] at h
    simp [eC1, okB, okBs, kOk_B k h.1, lOk_B m h.2]
theorem csOk_B : ∀ m : List Cs, csOk m = true → okBs (eCs m) = true
  | [], _ => by rw [eCs, okBs]
  | n :: r, h => by
    rw [csOk, Bool.and_eq_true] at h
    rw [eCs, okBs, cOk_B n h.1, csOk_B r h.2]; rfl
end
mutual
theorem nDep : ∀ n : Nd, dep (eN n) ≤ 4 * nH n + 1
  | .text x => by simp [eN, dep, deps]
  | .shw x => by simp [eN, dep, deps]
  | .num => by simp [eN, dep, deps]
  | .sel n cs o => by
    have h1 := csDep cs
    have h2 := lDep o
    simp only [eN, dep, deps, nH]
    omega
  | .plu n f cs o => by
    have h1 := csDep cs
    have h2 := lDep o
    simp only [eN, dep, deps, nH]
    omega
theorem lDep : ∀ m : List Nd, deps (eL m) ≤ 4 * lH m + 1
  | [] => by simp [eL, deps]
  | n :: r => by
    have h1 := nDep n
    have h2 := lDep r
    simp only [eL, deps, lH]
    omega
theorem cDep : ∀ c : Cs, dep (eC1 c) ≤ 4 * cH c + 3
  | .mk k m => by
    have h2 := lDep m
    have := kDep k
    simp only [eC1, dep, deps, cH]
    omega
theorem csDep : ∀ m : List Cs, deps (eCs m) ≤ 4 * csH m + 3
  | [] => by simp [eCs, deps]
  | n :: r => by
    have h1 := cDep n
    have h2 := csDep r
    simp only [eCs, deps, csH]
    omega
end
end DL

namespace DL
open PySem L2
/-! ### how long a repr is -/
mutual
def shW : D → Nat
  | .non => 4
  | .bl _ => 5
  | .int i => (toString i : Str).length
  | .str x => 10 * x.length + 2
  | .lst xs => shWs xs + 2
  | .tup xs => shWs xs + 2
  | .dct _ _ => 0
  | .ins _ _ _ => 0
  | .ptr _ => 0
  | .scr _ => 0
def shWs : List D → Nat
  | [] => 0
  | x :: xs => shW x + 2 + shWs xs
end
mutual
def okR : D → Bool
  | .non => true
  | .bl _ => true
  | .int i => decide (i.natAbs < 2 ^ 64)
  | .str x => PyData.canLay0 (.str x)
  | .lst xs => okRs xs
  | .tup xs => okRs xs
  | .dct _ _ => false
  | .ins _ _ _ => false
  | .ptr _ => false
  | .scr _ => false
def okRs : List D → Bool
  | [] => true
  | x :: xs => okR x && okRs xs
end
def tot : List Str → Nat
  | [] => 0
  | t :: r => t.length + 2 + tot r
theorem textFrom_tot : ∀ (ts : List Str) (k : Nat) (acc : Str), (textFrom k acc ts).length ≤ acc.length + tot ts
  | [], _, acc => by rw [textFrom, tot]; omega
  | t :: r, k, acc => by
    rw [textFrom, tot]
    have ih := textFrom_tot r (k + 1) (acc ++ (if k > 0 then ", " else "" : String) ++ t)
    have e : (acc ++ ((if k > 0 then ", " else "" : String) : Str) ++ t).length = acc.length + ((if k > 0 then ", " else "" : String) : Str).length + t.length := by
      rw [strLen_append, strLen_append]
    have e2 : (((if k > 0 then ", " else "" : String) : Str)).length ≤ 2 := by split <;> decide
    omega
theorem join_tot : ∀ (ts : List Str), (Str.join ", " ts).length ≤ tot ts
  | [] => by show (0 : Nat) ≤ _; exact Nat.zero_le _
  | [t] => by
    have e : Str.join ", " [t] = t := rfl
    rw [e, tot, tot]; omega
  | t :: u :: r => by
    have ih := join_tot (u :: r)
    have e : Str.join ", " (t :: u :: r) = t ++ ", " ++ Str.join ", " (u :: r) := rfl
    rw [e, strLen_append, strLen_append, tot]
    have e2 : ((", " : String) : Str).length = 2 := rfl
    omega
theorem list_tot (ts : List Str) : (listText ts).length ≤ tot ts + 2 := by
  unfold listText
  rw [strLen_append]
  have h := textFrom_tot ts 0 "["
  have e1 : (("[" : String) : Str).length = 1 := rfl
  have e2 : (("]" : String) : Str).length = 1 := rfl
  omega
theorem tuple_tot (ts : List Str) : (tupleText ts).length ≤ tot ts + 2 := by
  unfold tupleText
  rw [strLen_append, strLen_append]
  have e1 : (("(" : String) : Str).length = 1 := rfl
  rw [e1]
  match ts with
  | [] => decide
  | [t] =>
    have e : Str.join ", " [t] = t := rfl
    have e2 : (((if [t].length == 1 then ",)" else ")" : String) : Str)).length = 2 := rfl
    rw [e, e2, tot, tot]; omega
  | t :: u :: r =>
    have h := join_tot (t :: u :: r)
    have e2 : (((if (t :: u :: r).length == 1 then ",)" else ")" : String) : Str)).length ≤ 1 := by
      have : ((t :: u :: r).length == 1) = false := by simp
      rw [this]; decide
    omega
theorem log_lt {n : Nat} (h : n < 2 ^ 64) : n.log2 < 1920 := by
  by_cases z : n = 0
  · subst z; decide
  · exact Nat.lt_of_lt_of_le ((Nat.log2_lt z).mpr h) (by decide)
theorem str_sh {x : Str} (h : PyData.canLay0 (.str x) = true) : (reprText x).length ≤ 10 * x.length + 2 := by
  refine _root_.PySem.StrLaws.reprText_len x fun c hc => ?_
  rw [PyData.canLay0] at h
  have h2 : x.cps.all (fun k => decide (k < 0x110000)) = true := h
  rw [← Array.all_toList, List.all_eq_true] at h2
  have := h2 c hc
  rw [decide_eq_true_iff] at this
  exact Nat.lt_trans this (by decide)
mutual
theorem okR_py : ∀ d : D, okR d = true → ∃ p, toPy d = some p ∧ p.showable = true ∧ p.hasDict = false ∧ p.depth = dep d ∧ p.shown.length ≤ shW d
  | .non, _ => ⟨.none, by rw [toPy], by rw [PyData.showable], by rw [PyData.hasDict], by rw [PyData.depth, dep], by rw [PyData.shown, shW]; decide⟩
  | .bl b, _ => ⟨.bool b, by rw [toPy], by rw [PyData.showable], by rw [PyData.hasDict], by rw [PyData.depth, dep], by rw [PyData.shown, shW]; cases b <;> decide⟩
  | .int i, h => ⟨.int i, by rw [toPy], by rw [okR, decide_eq_true_iff] at h; rw [PyData.showable, decide_eq_true_iff]; exact log_lt h, by rw [PyData.hasDict], by rw [PyData.depth, dep], by rw [PyData.shown, shW]; exact Nat.le_refl _⟩
  | .str x, h => ⟨.str x, by rw [toPy], by rw [PyData.showable], by rw [PyData.hasDict], by rw [PyData.depth, dep], by rw [okR] at h; rw [PyData.shown, shW]; exact str_sh h⟩
  | .lst xs, h => by
    rw [okR] at h
    obtain ⟨ps, e, a, b, c, d⟩ := okRs_py xs h
    exact ⟨.list ps, by rw [toPy, e]; rfl, by rw [PyData.showable]; exact a, by rw [PyData.hasDict]; exact b, by rw [PyData.depth, dep, c], by rw [PyData.shown, shW]; exact Nat.le_trans (list_tot _) (by omega)⟩
  | .tup xs, h => by
    rw [okR] at h
    obtain ⟨ps, e, a, b, c, d⟩ := okRs_py xs h
    exact ⟨.tuple ps, by rw [toPy, e]; rfl, by rw [PyData.showable]; exact a, by rw [PyData.hasDict]; exact b, by rw [PyData.depth, dep, c], by rw [PyData.shown, shW]; exact Nat.le_trans (tuple_tot _) (by omega)⟩
  | .dct _ _, h => by rw [okR] at h; cases h
  | .ins _ _ _, h => by rw [okR] at h; cases h
  | .ptr _, h => by rw [okR] at h; cases h
  | .scr _, h => by rw [okR] at h; cases h
theorem okRs_py : ∀ ds : List D, okRs ds = true → ∃ ps, toPys ds = some ps ∧ PyData.showableAll ps = true ∧ PyData.hasDictAll ps = false ∧ PyData.depthAll ps = deps ds ∧ tot (PyData.shownAll ps) ≤ shWs ds
  | [], _ => ⟨[], by rw [toPys], by rw [PyData.showableAll], by rw [PyData.hasDictAll], by rw [PyData.depthAll, deps], by rw [PyData.shownAll, tot]; exact Nat.zero_le _⟩
  | x :: xs, h => by
    rw [okRs, Bool.and_eq_true] at h
    obtain ⟨p, e1, a1, b1, c1, d1⟩ := okR_py x h.1
    obtain ⟨ps, e2, a2, b2, c2, d2⟩ := okRs_py xs h.2
    exact ⟨p :: ps, by rw [toPys, e1, e2]; rfl, by rw [PyData.showableAll, a1, a2]; rfl, by rw [PyData.hasDictAll, b1, b2]; rfl, by rw [PyData.depthAll, deps, c1, c2], by rw [PyData.shownAll, tot, shWs]; omega⟩
end
theorem dRepr_ok {d : D} (sq : isSq d = true) (h : okR d = true) (hd : dep d ≤ 180) (hw : shW d ≤ sizeLine) : ∃ t, dRepr d = some (.str t) := by
  obtain ⟨p, e, a, b, c, l⟩ := okR_py d h
  refine ⟨p.shown, ?_⟩
  unfold dRepr
  rw [e]
  simp only
  rw [if_pos ⟨sq, a, b, by omega, by omega⟩]
/-! messages -/
theorem kOk_R (k : Ky) (h : kOk k = true) : okR (eK k) = true := by
  cases k with
  | i n => rw [eK, okR]; exact h
  | s x => rw [eK, okR]; exact h
mutual
theorem nOk_R : ∀ n : Nd, nOk n = true → okR (eN n) = true
  | .text x, h => by rw [nOk] at h; simp [eN, okR, okRs, text_ok]; exact h
  | .shw x, h => by rw [nOk] at h; simp [eN, okR, okRs, show_ok]; exact h
  | .num, _ => by simp [eN, okR, okRs, number_ok]
  | .sel n cs o, h => by
    rw [nOk, Bool.and_eq_true, Bool.and_eq_true] at h
    simp [eN, okR, okRs, select_ok, csOk_R cs h.1.2, lOk_R o h.2]; exact h.1.1
  | .plu n f cs o, h => by
    rw [nOk, Bool.and_eq_true, Bool.and_eq_true, Bool.and_eq_true] at h
    have hf := h.1.1.2
    unfold iOk at hf
    rw [eN, okR, okRs, okRs, okRs, okRs, okRs, okRs, okR, okR, okR, okR, okR, plural_ok, hf, csOk_R cs h.1.2, lOk_R o h.2]
    show (true && (PyData.canLay0 (.str n) && _)) = true
    rw [show PyData.canLay0 (.str n) = true from h.1.1.1]; rfl
theorem lOk_R : ∀ m : List Nd, lOk m = true → okRs (eL m) = true
  | [], _ => by rw [eL, okRs]
  | n :: r, h => by
    rw [lOk, Bool.and_eq_true] at h
    rw [eL, okRs, nOk_R n h.1, lOk_R r h.2]; rfl
theorem cOk_R : ∀ c : Cs, cOk c = true → okR (eC1 c) = true
  | .mk k m, h => by
    rw [cOk, Bool.and_eq_true] at h
    simp [eC1, okR, okRs, kOk_R k h.1, lOk_R m h.2]
theorem csOk_R : ∀ m : List Cs, csOk m = true → okRs (eCs m) = true
  | [], _ => by rw [eCs, okRs]
  | n :: r, h => by
    rw [csOk, Bool.and_eq_true] at h
    rw [eCs, okRs, cOk_R n h.1, csOk_R r h.2]; rfl
end
theorem kW_sh (k : Ky) : shW (eK k) = kW k := by cases k <;> rw [eK, shW, kW]
theorem l_text : ("text" : Str).length = 4 := by decide +kernel
theorem l_show : ("show" : Str).length = 4 := by decide +kernel
theorem l_number : ("number" : Str).length = 6 := by decide +kernel
theorem l_select : ("select" : Str).length = 6 := by decide +kernel
theorem l_plural : ("plural" : Str).length = 6 := by decide +kernel
mutual
theorem nW_sh : ∀ n : Nd, shW (eN n) + 2 ≤ 3 * nW n
  | .text x => by simp only [eN, shW, shWs, nW, l_text]; omega
  | .shw x => by simp only [eN, shW, shWs, nW, l_show]; omega
  | .num => by simp only [eN, shW, shWs, nW, l_number]; omega
  | .sel n cs o => by
    have h1 := csW_sh cs
    have h2 := lW_sh o
    simp only [eN, shW, shWs, nW, l_select]; omega
  | .plu n f cs o => by
    have h1 := csW_sh cs
    have h2 := lW_sh o
    simp only [eN, shW, shWs, nW, l_plural]; omega
theorem lW_sh : ∀ m : List Nd, shWs (eL m) ≤ 3 * lW m
  | [] => by simp [eL, shWs]
  | n :: r => by
    have h1 := nW_sh n
    have h2 := lW_sh r
    have := nW_pos n
    simp only [eL, shWs, lW]; omega
theorem cW_sh : ∀ c : Cs, shW (eC1 c) + 2 ≤ 3 * cW c
  | .mk k m => by
    have h2 := lW_sh m
    have := kW_sh k
    simp only [eC1, shW, shWs, cW]; omega
theorem csW_sh : ∀ m : List Cs, shWs (eCs m) ≤ 3 * csW m
  | [] => by simp [eCs, shWs]
  | n :: r => by
    have h1 := cW_sh n
    have h2 := csW_sh r
    simp only [eCs, shWs, csW]; omega
end
theorem msg_repr {m : List Nd} (h : lOk m = true) (hh : lH m ≤ 10) (hw : lW m ≤ 5000000) : ∃ t, dRepr (.lst (eL m)) = some (.str t) := by
  refine dRepr_ok rfl (by rw [okR]; exact lOk_R m h) ?_ ?_
  · have := lDep m
    rw [dep]; omega
  · have := lW_sh m
    rw [shW]; show _ ≤ 16777216; omega
theorem msg_same {m : List Nd} (h : lOk m = true) (hh : lH m ≤ 10) : dEq (.lst (eL m)) (.lst (eL m)) = some true := by
  refine dEq_same (by rw [okB]; exact lOk_B m h) ?_
  have := lDep m
  rw [dep]; omega
end DL

namespace DL
open PySem L2
/-! ### messages in plain form -/
def isT : Nd → Bool
  | .text _ => true
  | _ => false
def lastT (m : List Nd) : Bool := match m.getLast? with
  | some n => isT n
  | none => false
/-- one node behind what was found -/
def plS (acc : List Nd) (n : Nd) (n' : Nd) : List Nd := match n with
  | .text x => match acc.getLast? with
    | some (.text y) => acc.dropLast ++ [.text (y ++ x)]
    | _ => if x = "" then acc else acc ++ [.text x]
  | _ => acc ++ [n']
mutual
def plN : Nd → Nd
  | .text x => .text x
  | .shw n => .shw n
  | .num => .num
  | .sel n cs o => .sel n (plCs cs) (plA [] o)
  | .plu n f cs o => .plu n f (plCs cs) (plA [] o)
def plA : List Nd → List Nd → List Nd
  | acc, [] => acc
  | acc, n :: r => plA (plS acc n (plN n)) r
def plC : Cs → Cs
  | .mk k m => .mk k (plA [] m)
def plCs : List Cs → List Cs
  | [] => []
  | c :: r => plC c :: plCs r
end
theorem plCs_map (m : List Cs) : plCs m = m.map plC := by
  induction m with
  | nil => rw [plCs]; rfl
  | cons n r ih => rw [plCs, ih]; rfl
theorem plA_app (acc a b : List Nd) : plA acc (a ++ b) = plA (plA acc a) b := by
  induction a generalizing acc with
  | nil => rw [List.nil_append, plA]
  | cons n r ih => rw [List.cons_append, plA, plA, ih]
/-! the plain ones -/
mutual
def gN : Nd → Prop
  | .text x => x ≠ ""
  | .shw _ => True
  | .num => True
  | .sel _ cs o => gCs cs ∧ gL o
  | .plu _ _ cs o => gCs cs ∧ gL o
def gL : List Nd → Prop
  | [] => True
  | n :: r => gN n ∧ gL r ∧ (isT n = true → ∀ y, r.head? = some y → isT y = false)
def gC : Cs → Prop
  | .mk _ m => gL m
def gCs : List Cs → Prop
  | [] => True
  | c :: r => gC c ∧ gCs r
end
theorem gL_snoc {m : List Nd} {n : Nd} (h : gL m) (hn : gN n) (hl : lastT m = true → isT n = false) : gL (m ++ [n]) := by
  induction m with
  | nil => rw [List.nil_append, gL]; exact ⟨hn, by rw [gL]; trivial, fun _ y z => by cases z⟩
  | cons x r ih =>
    rw [gL] at h
    obtain ⟨h1, h2, h3⟩ := h
    rw [List.cons_append, gL]
    refine ⟨h1, ih h2 fun z => hl ?_, fun z y hy => ?_⟩
    · cases r with
      | nil => exact (show false = true from z) |> fun w => by cases w
      | cons a b => exact z
    · cases r with
      | nil =>
        cases hy
        exact hl z
      | cons a b => exact h3 z y hy
theorem gCs_snoc {m : List Cs} {c : Cs} (h : gCs m) (hc : gC c) : gCs (m ++ [c]) := by
  induction m with
  | nil => rw [List.nil_append, gCs]; exact ⟨hc, by rw [gCs]; trivial⟩
  | cons x r ih => rw [gCs] at h; rw [List.cons_append, gCs]; exact ⟨h.1, ih h.2⟩
theorem gCs_rev {m : List Cs} (h : gCs m) : gCs m.reverse := by
  induction m with
  | nil => exact h
  | cons x r ih => rw [gCs] at h; rw [List.reverse_cons]; exact gCs_snoc (ih h.2) h.1
theorem gL_left {a b : List Nd} (h : gL (a ++ b)) : gL a := by
  induction a with
  | nil => rw [gL]; trivial
  | cons x r ih =>
    rw [List.cons_append, gL] at h
    obtain ⟨h1, h2, h3⟩ := h
    rw [gL]
    exact ⟨h1, ih h2, fun z y hy => h3 z y (by cases r with | nil => cases hy | cons a b => exact hy)⟩
theorem gL_mid {a b : List Nd} {n : Nd} (h : gL (a ++ n :: b)) : gN n ∧ (lastT a = true → isT n = false) := by
  induction a with
  | nil => rw [List.nil_append, gL] at h; exact ⟨h.1, fun z => by cases z⟩
  | cons x r ih =>
    rw [List.cons_append, gL] at h
    obtain ⟨h1, h2, h3⟩ := h
    refine ⟨(ih h2).1, fun z => ?_⟩
    cases r with
    | nil => exact h3 z n rfl
    | cons a b => exact (ih h2).2 z
theorem lastT_snoc (a : List Nd) (n : Nd) : lastT (a ++ [n]) = isT n := by unfold lastT; rw [List.getLast?_concat]
theorem str_app_nil (y : Str) : y ++ ("" : Str) = y := by
  show Str.append y "" = y
  obtain ⟨a⟩ := y
  show (⟨a ++ #[]⟩ : Str) = ⟨a⟩
  rw [Array.append_empty]
theorem plS_plain {acc : List Nd} {n : Nd} (hn : gN n) (hl : lastT acc = true → isT n = false) : plS acc n n = acc ++ [n] := by
  cases n with
  | text x =>
    rw [gN] at hn
    unfold plS
    cases q : acc.getLast? with
    | none => simp only; rw [if_neg hn]
    | some l =>
      cases l with
      | text y => exact absurd (hl (by unfold lastT; rw [q]; rfl)) (by simp [isT])
      | _ => simp only; rw [if_neg hn]
  | _ => rfl
/-- an empty text makes no difference -/
theorem plS_nil (n n' : Nd) : plS [] n n' = match n with | .text x => if x = "" then [] else [.text x] | _ => [n'] := by
  cases n <;> rfl
theorem plS_concat (a : List Nd) (l n n' : Nd) : plS (a ++ [l]) n n' = match n, l with
    | .text x, .text y => a ++ [.text (y ++ x)]
    | .text x, _ => if x = "" then a ++ [l] else a ++ [l] ++ [.text x]
    | _, _ => a ++ [l] ++ [n'] := by
  cases n <;> try rfl
  unfold plS
  rw [List.getLast?_concat]
  cases l <;> simp
theorem plS_empty (acc : List Nd) (n' : Nd) : plS acc (.text "") n' = acc := by
  rcases List.eq_nil_or_concat acc with rfl | ⟨a, l, rfl⟩
  · rfl
  · rw [List.concat_eq_append, plS_concat]
    cases l <;> simp [str_app_nil]
mutual
theorem plN_same : ∀ n : Nd, gN n → plN n = n
  | .text x, _ => by rw [plN]
  | .shw n, _ => by rw [plN]
  | .num, _ => by rw [plN]
  | .sel n cs o, h => by
    rw [gN] at h
    rw [plN, plCs_same cs h.1, plA_same [] o (by rw [List.nil_append]; exact h.2)]; rfl
  | .plu n f cs o, h => by
    rw [gN] at h
    rw [plN, plCs_same cs h.1, plA_same [] o (by rw [List.nil_append]; exact h.2)]; rfl
theorem plA_same : ∀ (acc m : List Nd), gL (acc ++ m) → plA acc m = acc ++ m
  | acc, [], _ => by rw [plA, List.append_nil]
  | acc, n :: r, h => by
    obtain ⟨h1, h2⟩ := gL_mid h
    rw [plA, plN_same n h1, plS_plain h1 h2, plA_same (acc ++ [n]) r (by rw [List.append_assoc]; exact h), List.append_assoc]; rfl
theorem plC_same : ∀ c : Cs, gC c → plC c = c
  | .mk k m, h => by
    rw [gC] at h
    rw [plC, plA_same [] m (by rw [List.nil_append]; exact h)]; rfl
theorem plCs_same : ∀ m : List Cs, gCs m → plCs m = m
  | [], _ => by rw [plCs]
  | c :: r, h => by
    rw [gCs] at h
    rw [plCs, plC_same c h.1, plCs_same r h.2]
end
end DL

namespace DL
open PySem L2
theorem x_sPutO {i : Nat} {k e : De} {Γ : List Sl} {S : List D} : sPutO i k e Γ S = after (e Γ S) Γ fun d S1 => match Γ[i]? with
  | some (.own (.dct _ _)) => after (k Γ S1) Γ fun x S2 => match Γ[i]?, keyD x with
    | some (.own (.dct ks xs)), some q => if xs.length < sizeLine then .next (Γ.set i (.own (.dct (dPut ks xs q d).1 (dPut ks xs q d).2))) S2 else .stuck
    | _, _ => .stuck
  | _ => .stuck := Eq.trans rfl rfl
@[simp] theorem x_eDct0 {Γ : List Sl} {S : List D} : eDct0 Γ S = .ok (.dct [] []) S := Eq.trans rfl rfl
@[simp] theorem x_sRaise {c : Nat} {fld : Str} {e : De} {Γ : List Sl} {S : List D} : sRaise c fld e Γ S = after (e Γ S) Γ fun d S1 => if shOk d = true then .exc ⟨c, [fld], [d]⟩ Γ S1 else .stuck := Eq.trans rfl rfl
@[simp] theorem x_eDComp {α : Da} {p : Pat} {vs : List Nat} {t : Dt} {a b : De} {Γ : List Sl} {S : List D} : eDComp α p vs t a b Γ S = (α Γ S).bind fun xs S1 => (dcompD p t a b xs (wipeD Γ vs) S1 ([], [])).bind fun a S2 => .ok (.dct a.1 a.2) S2 := Eq.trans rfl rfl
@[simp] theorem x_sTry {i : Option Nat} {f : Nat → Option Bool} {b h : Ds} {Γ : List Sl} {S : List D} : sTry i f b h Γ S = match b Γ S with
  | .exc e Γ1 S1 => match f e.c with
    | some true => if noX Γ1 then unx i (h (setxD i e Γ1) S1) else .stuck
    | some false => .exc e Γ1 S1
    | none => .stuck
  | o => o := Eq.trans rfl rfl
@[simp] theorem x_eIsX {i : Nat} {f : Nat → Option Bool} {Γ : List Sl} {S : List D} : eIsX i f Γ S = match Γ[i]? with
  | some (.xcp x) => ofO ((f x.c).map .bl) S
  | _ => .stuck := Eq.trans rfl rfl
@[simp] theorem x_eXf {i : Nat} {f : Str} {g : Nat → Bool} {Γ : List Sl} {S : List D} : eXf i f g Γ S = match Γ[i]? with
  | some (.xcp x) => if g x.c = true then ofO ((x.ns.zip x.fs).lookup f) S else .stuck
  | _ => .stuck := Eq.trans rfl rfl
@[simp] theorem x_eGet1 {a b : De} {Γ : List Sl} {S : List D} : eGet1 a b Γ S = (a Γ S).bind fun x S1 => if isDct (deref S1 x) = true then (b Γ S1).bind fun y S2 => ofO (dGet1 (deref S2 x) y) S2 else .stuck := Eq.trans rfl rfl
end DL

namespace DL
open PySem L2
@[simp] theorem x_eAtt {f : Str} {g : Nat → Bool} {a : De} {Γ : List Sl} {S : List D} : eAtt f g a Γ S = (a Γ S).bind fun x S1 => match deref S1 x with
  | .ins c ns xs => if g c = true then ofO ((ns.zip xs).lookup f) S1 else .stuck
  | _ => .stuck := Eq.trans rfl rfl
@[simp] theorem x_sAtt {f : Str} {g : Nat → Bool} {o e : De} {Γ : List Sl} {S : List D} : sAtt f g o e Γ S = after (e Γ S) Γ fun d S1 => after (o Γ S1) Γ fun x S2 => match x with
  | .ptr q => match S2[q]? with
    | some (.ins c ns xs) => if g c = true ∧ ns.length < 900 then .next Γ (S2.set q (.ins c (putD f d ns xs).1 (putD f d ns xs).2)) else .stuck
    | _ => .stuck
  | _ => .stuck := Eq.trans rfl rfl
@[simp] theorem x_sAppP {o e : De} {Γ : List Sl} {S : List D} : sAppP o e Γ S = after (o Γ S) Γ fun x S1 => match deref S1 x with
  | .lst _ => after (e Γ S1) Γ fun d S2 => match x with
    | .ptr q => match S2[q]? with
      | some (.lst xs) => if xs.length < sizeLine then .next Γ (S2.set q (.lst (xs ++ [d]))) else .stuck
      | _ => .stuck
    | _ => .stuck
  | _ => .stuck := Eq.trans rfl rfl
@[simp] theorem x_sPopP {o : De} {Γ : List Sl} {S : List D} : sPopP o Γ S = after (o Γ S) Γ fun x S1 => match x with
  | .ptr q => match S1[q]? with
    | some (.lst xs) => if xs ≠ [] then .next Γ (S1.set q (.lst xs.dropLast)) else .stuck
    | _ => .stuck
  | _ => .stuck := Eq.trans rfl rfl
@[simp] theorem x_sPutP {o k e : De} {Γ : List Sl} {S : List D} : sPutP o k e Γ S = after (e Γ S) Γ fun d S1 => after (o Γ S1) Γ fun x S2 => after (k Γ S2) Γ fun y S3 => match x with
  | .ptr q => match S3[q]?, keyD y with
    | some (.dct ks xs), some kk => if xs.length < sizeLine then .next Γ (S3.set q (.dct (dPut ks xs kk d).1 (dPut ks xs kk d).2)) else .stuck
    | _, _ => .stuck
  | _ => .stuck := Eq.trans rfl rfl
@[simp] theorem x_sDelP {o k : De} {Γ : List Sl} {S : List D} : sDelP o k Γ S = after (o Γ S) Γ fun x S1 => after (k Γ S1) Γ fun y S2 => match x with
  | .ptr q => match S2[q]?, keyD y with
    | some (.dct ks xs), some kk => if (dGet ks xs kk).isSome = true then .next Γ (S2.set q (.dct (dDropX kk ks xs).1 (dDropX kk ks xs).2)) else .stuck
    | _, _ => .stuck
  | _ => .stuck := Eq.trans rfl rfl
@[simp] theorem x_eMeth {c : Nat} {m : Str} {F : List D → List D → Res D} {o : De} {α : Da} {Γ : List Sl} {S : List D} : eMeth c m F o α Γ S = (o Γ S).bind fun x S1 => match deref S1 x with
  | .ins c' ns _ => if c' = c ∧ ns.contains m = false then (α Γ S1).bind fun ds S2 => F (x :: ds) S2 else .stuck
  | _ => .stuck := Eq.trans rfl rfl
@[simp] theorem x_eMake {c : Nat} {F : List D → List D → Res D} {α : Da} {Γ : List Sl} {S : List D} : eMake c F α Γ S = (α Γ S).bind fun ds S1 => (F (.ptr S1.length :: ds) (S1 ++ [.ins c [] []])).bind fun d S2 => if isNon d = true then .ok (.ptr S1.length) S2 else .stuck := Eq.trans rfl rfl
@[simp] theorem x_sTryN {hs : List (Nat × (Nat → Option Bool) × Ds)} {b : Ds} {Γ : List Sl} {S : List D} : sTryN hs b Γ S = match b Γ S with
  | .exc e Γ1 S1 => catchD hs e Γ1 S1
  | o => o := Eq.trans rfl rfl
@[simp] theorem x_catch0 {e : Exn} {Γ : List Sl} {S : List D} : catchD [] e Γ S = .exc e Γ S := Eq.trans rfl rfl
@[simp] theorem x_catch {i : Nat} {f : Nat → Option Bool} {h : Ds} {r : List (Nat × (Nat → Option Bool) × Ds)} {e : Exn} {Γ : List Sl} {S : List D} : catchD ((i, f, h) :: r) e Γ S = match f e.c with
  | some true => if noX Γ then unx (some i) (h (Γ.set i (.xcp e)) S) else .stuck
  | some false => catchD r e Γ S
  | none => .stuck := Eq.trans rfl rfl
@[simp] theorem x_sPopO {i j : Nat} {k : De} {Γ : List Sl} {S : List D} : sPopO i j k Γ S = match Γ[j]? with
  | some (.own (.dct _ _)) => after (k Γ S) Γ fun y S1 => match Γ[j]?, keyD y with
    | some (.own (.dct ks xs)), some q => match dGet ks xs q with
      | some d => .next ((Γ.set j (.own (.dct (dDropX q ks xs).1 (dDropX q ks xs).2))).set i (.val d)) S1
      | none => .stuck
    | _, _ => .stuck
  | _ => .stuck := Eq.trans rfl rfl
@[simp] theorem x_sPop2P {o k x : De} {Γ : List Sl} {S : List D} : sPop2P o k x Γ S = after (o Γ S) Γ fun v S1 => if isDct (deref S1 v) = true then after (k Γ S1) Γ fun y S2 => after (x Γ S2) Γ fun _ S3 => match v with
  | .ptr q => match S3[q]?, keyD y with
    | some (.dct ks xs), some kk => if (dGet ks xs kk).isSome = true then .next Γ (S3.set q (.dct (dDropX kk ks xs).1 (dDropX kk ks xs).2)) else .next Γ S3
    | _, _ => .stuck
  | _ => .stuck else .stuck := Eq.trans rfl rfl
theorem x_sForKL {i : Nat} {p : Pat} {kl : List Nat} {β : Ds} {Γ : List Sl} {S : List D} : sForKL i p kl β Γ S = noXc (sFor (iKL i) p kl β Γ S) := Eq.trans rfl rfl
theorem x_iKL {i q : Nat} {ds : List D} {ks : List Key} {xs : List D} {Γ : List Sl} {S : List D} (h1 : Γ[i]? = some (.val (.ptr q))) (h2 : S[q]? = some (.lst ds)) (h3 : ds.getLast? = some (.dct ks xs)) : iKL i Γ S = .ok (ks.map keyK) S := by
  unfold iKL; rw [h1]; simp only; rw [h2]; simp only; rw [h3]
@[simp] theorem dListA_dct (ks : List Key) (xs : List D) : dListA (.dct ks xs) = some (.lst (ks.map keyK)) := Eq.trans rfl rfl
@[simp] theorem dDictA_dct (ks : List Key) (xs : List D) : dDictA (.dct ks xs) = some (.dct ks xs) := Eq.trans rfl rfl
@[simp] theorem cInA_dct {k : D} {q : Key} {ks : List Key} {xs : List D} (h : keyD k = some q) : cInA k (.dct ks xs) = some (.bl (dGet ks xs q).isSome) := by
  unfold cInA cInK; rw [h]; rfl
@[simp] theorem cNotInA_dct {k : D} {q : Key} {ks : List Key} {xs : List D} (h : keyD k = some q) : cNotInA k (.dct ks xs) = some (.bl (!(dGet ks xs q).isSome)) := by
  unfold cNotInA cNotInK; rw [h]; rfl
end DL

namespace PV
section
open PySem PySem.Spec PyProof.Rows L2 DL
/-! the text -/
def topS (i : Nat) : Stmt := PySem.Challenge.pw_messageways_k51_books.main.body.getD i (.Pass ⟨0, 0, 0, 0⟩)
abbrev s_1 : Stmt := topS 10  -- cases_of
abbrev N_1 : List Str := ["node"]
theorem sc_1 : FnScope N_1 ["node"] (defScope s_1) := ⟨rfl, rfl, rfl, by decide +kernel, rfl, by decide +kernel, by decide +kernel⟩
abbrev s_2 : Stmt := topS 11  -- other_of
abbrev N_2 : List Str := ["node"]
theorem sc_2 : FnScope N_2 ["node"] (defScope s_2) := ⟨rfl, rfl, rfl, by decide +kernel, rfl, by decide +kernel, by decide +kernel⟩
abbrev s_4 : Stmt := topS 12  -- plain_node
abbrev N_4 : List Str := ["node", "cases", "key", "message"]
theorem sc_4 : FnScope N_4 ["node"] (defScope s_4) := ⟨rfl, rfl, rfl, by decide +kernel, rfl, by decide +kernel, by decide +kernel⟩
abbrev s_5 : Stmt := topS 13  -- plain
abbrev N_5 : List Str := ["message", "found", "node"]
theorem sc_5 : FnScope N_5 ["message"] (defScope s_5) := ⟨rfl, rfl, rfl, by decide +kernel, rfl, by decide +kernel, by decide +kernel⟩
abbrev s_148 : Stmt := topS 15  -- case_at
abbrev N_148 : List Str := ["message", "place", "key"]
theorem sc_148 : FnScope N_148 ["message", "place", "key"] (defScope s_148) := ⟨rfl, rfl, rfl, by decide +kernel, rfl, by decide +kernel, by decide +kernel⟩
abbrev s_149 : Stmt := topS 16  -- message_at
abbrev N_149 : List Str := ["message", "path", "now", "place", "key"]
theorem sc_149 : FnScope N_149 ["message", "path"] (defScope s_149) := ⟨rfl, rfl, rfl, by decide +kernel, rfl, by decide +kernel, by decide +kernel⟩
abbrev s_150 : Stmt := topS 17  -- with_case
abbrev N_150 : List Str := ["node", "key", "message", "cases", "other", "inner"]
theorem sc_150 : FnScope N_150 ["node", "key", "message"] (defScope s_150) := ⟨rfl, rfl, rfl, by decide +kernel, rfl, by decide +kernel, by decide +kernel⟩
abbrev s_151 : Stmt := topS 18  -- replaced
abbrev N_151 : List Str := ["message", "path", "inner", "place", "key", "later"]
theorem sc_151 : FnScope N_151 ["message", "path", "inner"] (defScope s_151) := ⟨rfl, rfl, rfl, by decide +kernel, rfl, by decide +kernel, by decide +kernel⟩
abbrev s_152 : Stmt := clsSt (topS 19) 0  -- Book.__init__
abbrev N_152 : List Str := ["self"]
theorem sc_152 : FnScope N_152 ["self"] (defScope s_152) := ⟨rfl, rfl, rfl, by decide +kernel, rfl, by decide +kernel, by decide +kernel⟩
abbrev s_153 : Stmt := clsSt (topS 19) 1  -- Book.messages
abbrev N_153 : List Str := ["self"]
theorem sc_153 : FnScope N_153 ["self"] (defScope s_153) := ⟨rfl, rfl, rfl, by decide +kernel, rfl, by decide +kernel, by decide +kernel⟩
abbrev s_154 : Stmt := clsSt (topS 19) 2  -- Book.put
abbrev N_154 : List Str := ["self", "key", "message", "now", "before"]
theorem sc_154 : FnScope N_154 ["self", "key", "message"] (defScope s_154) := ⟨rfl, rfl, rfl, by decide +kernel, rfl, by decide +kernel, by decide +kernel⟩
abbrev s_155 : Stmt := clsSt (topS 19) 3  -- Book.drop
abbrev N_155 : List Str := ["self", "key", "now", "message"]
theorem sc_155 : FnScope N_155 ["self", "key"] (defScope s_155) := ⟨rfl, rfl, rfl, by decide +kernel, rfl, by decide +kernel, by decide +kernel⟩
abbrev s_156 : Stmt := clsSt (topS 19) 4  -- Book.change
abbrev N_156 : List Str := ["self", "key", "path", "inner"]
theorem sc_156 : FnScope N_156 ["self", "key", "path", "inner"] (defScope s_156) := ⟨rfl, rfl, rfl, by decide +kernel, rfl, by decide +kernel, by decide +kernel⟩
abbrev s_157 : Stmt := clsSt (topS 19) 5  -- Book.undo
abbrev N_157 : List Str := ["self"]
theorem sc_157 : FnScope N_157 ["self"] (defScope s_157) := ⟨rfl, rfl, rfl, by decide +kernel, rfl, by decide +kernel, by decide +kernel⟩
abbrev s_1000 : Stmt := topS 21  -- _law_cell
abbrev N_1000 : List Str := ["_law_script", "_law_k"]
theorem sc_1000 : FnScope N_1000 ["_law_script", "_law_k"] (defScope s_1000) := ⟨rfl, rfl, rfl, by decide +kernel, rfl, by decide +kernel, by decide +kernel⟩
abbrev s_1001 : Stmt := topS 22  -- _law_row
abbrev N_1001 : List Str := ["_law_cell_here", "_law_k", "_law_many", "_law_row_here", "_law_turn", "_law_seed"]
theorem sc_1001 : FnScope N_1001 ["_law_cell_here", "_law_k", "_law_many"] (defScope s_1001) := ⟨rfl, rfl, rfl, by decide +kernel, rfl, by decide +kernel, by decide +kernel⟩
abbrev s_1002 : Stmt := topS 23  -- _law_box
abbrev N_1002 : List Str := ["_law_script", "_law_first", "_law_last", "_law_row_here", "_law_k"]
theorem sc_1002 : FnScope N_1002 ["_law_script", "_law_first", "_law_last"] (defScope s_1002) := ⟨rfl, rfl, rfl, by decide +kernel, rfl, by decide +kernel, by decide +kernel⟩
abbrev s_1003 : Stmt := topS 24  -- _law_draw
abbrev N_1003 : List Str := ["_law_box_here", "_law_many", "_law_at_here"]
theorem sc_1003 : FnScope N_1003 ["_law_box_here", "_law_many"] (defScope s_1003) := ⟨rfl, rfl, rfl, by decide +kernel, rfl, by decide +kernel, by decide +kernel⟩
abbrev s_1004 : Stmt := topS 25  -- _law_same
abbrev N_1004 : List Str := ["_law_one", "_law_other"]
theorem sc_1004 : FnScope N_1004 ["_law_one", "_law_other"] (defScope s_1004) := ⟨rfl, rfl, rfl, by decide +kernel, rfl, by decide +kernel, by decide +kernel⟩
abbrev s_1005 : Stmt := topS 26  -- _law_message
abbrev N_1005 : List Str := ["_law_box_here", "_law_depth", "_law_inside", "_law_numbers", "_law_found", "_law_turn", "_law_kind", "_law_cases", "_law_key", "_law_name", "_law_word"]
theorem sc_1005 : FnScope N_1005 ["_law_box_here", "_law_depth", "_law_inside", "_law_numbers"] (defScope s_1005) := ⟨rfl, rfl, rfl, by decide +kernel, rfl, by decide +kernel, by decide +kernel⟩
abbrev s_1006 : Stmt := topS 27  -- _law_paths
abbrev N_1006 : List Str := ["_law_message_here", "_law_found", "_law_place", "_law_node", "_law_key", "_law_case", "_law_path_here"]
theorem sc_1006 : FnScope N_1006 ["_law_message_here"] (defScope s_1006) := ⟨rfl, rfl, rfl, by decide +kernel, rfl, by decide +kernel, by decide +kernel⟩
abbrev s_1007 : Stmt := topS 28  -- _law_at
abbrev N_1007 : List Str := ["_law_message_here", "_law_path_here", "_law_now", "_law_place", "_law_key", "_law_cases", "_law_chosen", "_law_other", "_law_case"]
theorem sc_1007 : FnScope N_1007 ["_law_message_here", "_law_path_here"] (defScope s_1007) := ⟨rfl, rfl, rfl, by decide +kernel, rfl, by decide +kernel, by decide +kernel⟩
abbrev s_1008 : Stmt := topS 29  -- _law_put
abbrev N_1008 : List Str := ["_law_message_here", "_law_path_here", "_law_inner", "_law_place", "_law_key", "_law_node", "_law_cases", "_law_last", "_law_other", "_law_case"]
theorem sc_1008 : FnScope N_1008 ["_law_message_here", "_law_path_here", "_law_inner"] (defScope s_1008) := ⟨rfl, rfl, rfl, by decide +kernel, rfl, by decide +kernel, by decide +kernel⟩
abbrev s_1009 : Stmt := topS 30  -- _law_path
abbrev N_1009 : List Str := ["_law_box_here", "_law_message_here", "_law_paths_here", "_law_path_here", "_law_kind", "_law_place", "_law_key"]
theorem sc_1009 : FnScope N_1009 ["_law_box_here", "_law_message_here"] (defScope s_1009) := ⟨rfl, rfl, rfl, by decide +kernel, rfl, by decide +kernel, by decide +kernel⟩
abbrev s_1010 : Stmt := topS 31  -- _law_plain
abbrev N_1010 : List Str := ["_law_message_here", "_law_found", "_law_node", "_law_cases", "_law_key", "_law_case"]
theorem sc_1010 : FnScope N_1010 ["_law_message_here"] (defScope s_1010) := ⟨rfl, rfl, rfl, by decide +kernel, rfl, by decide +kernel, by decide +kernel⟩
abbrev s_1011 : Stmt := topS 32  -- _law_deed
abbrev N_1011 : List Str := ["_law_box_here", "_law_now", "_law_keys", "_law_key", "_law_kind"]
theorem sc_1011 : FnScope N_1011 ["_law_box_here", "_law_now"] (defScope s_1011) := ⟨rfl, rfl, rfl, by decide +kernel, rfl, by decide +kernel, by decide +kernel⟩
abbrev s_1012 : Stmt := topS 33  -- _law_done
abbrev N_1012 : List Str := ["_law_states", "_law_deed_here", "_law_now", "_law_key", "_law_there", "_law_message_here"]
theorem sc_1012 : FnScope N_1012 ["_law_states", "_law_deed_here"] (defScope s_1012) := ⟨rfl, rfl, rfl, by decide +kernel, rfl, by decide +kernel, by decide +kernel⟩
abbrev s_1013 : Stmt := topS 34  -- _law_call
abbrev N_1013 : List Str := ["_law_book", "_law_deed_here"]
theorem sc_1013 : FnScope N_1013 ["_law_book", "_law_deed_here"] (defScope s_1013) := ⟨rfl, rfl, rfl, by decide +kernel, rfl, by decide +kernel, by decide +kernel⟩
abbrev s_1014 : Stmt := topS 35  -- _law_told
abbrev N_1014 : List Str := ["_law_book", "_law_deed_here", "e"]
theorem sc_1014 : FnScope N_1014 ["_law_book", "_law_deed_here"] (defScope s_1014) := ⟨rfl, rfl, rfl, by decide +kernel, rfl, by decide +kernel, by decide +kernel⟩
abbrev s_1015 : Stmt := topS 36  -- law
abbrev N_1015 : List Str := ["_law_script", "_law_box_here", "_law_book", "_law_states", "_law_turn", "_law_deed_here", "_law_due", "_law_told_here", "_law_key"]
theorem sc_1015 : FnScope N_1015 ["_law_script"] (defScope s_1015) := ⟨rfl, rfl, rfl, by decide +kernel, rfl, by decide +kernel, by decide +kernel⟩
theorem tx_NoSuchPlace : ErrSt (clsSt (topS 2) 0) "path" "path" := ⟨⟨_, _, _, _, _, _, _, _, _, _, _, _, _, _, (.txt (by decide +kernel) (.val FParts.nil)), by decide, rfl, rfl⟩, by decide +kernel, by decide +kernel, by decide +kernel, by decide +kernel, by decide +kernel, rfl, rfl, rfl, ⟨_, rfl, rfl⟩, by decide +kernel, by decide +kernel⟩
theorem tx_NoSuchKey : ErrSt (clsSt (topS 3) 0) "key" "key" := ⟨⟨_, _, _, _, _, _, _, _, _, _, _, _, _, _, (.txt (by decide +kernel) (.val FParts.nil)), by decide, rfl, rfl⟩, by decide +kernel, by decide +kernel, by decide +kernel, by decide +kernel, by decide +kernel, rfl, rfl, rfl, ⟨_, rfl, rfl⟩, by decide +kernel, by decide +kernel⟩
/-! what each def computes -/
def fx_NoSuchKey : Nat → Option Bool := fun c => if c = 7 then some false else if c = 8 then some true else none
def fx_NoSuchPlace : Nat → Option Bool := fun c => if c = 7 then some true else if c = 8 then some false else none
def ga_past : Nat → Bool := fun c => decide (c = 22)
def gx_key : Nat → Bool := fun c => decide (c = 8)
def gx_path : Nat → Bool := fun c => decide (c = 7)
def B_1 (R : Rec) : List D → List D → Res D := bodyRun 1 (sRet (eOp dIdx (eV 0) (eUn dNeg (eC (.int 2)))))  -- cases_of
def B_2 (R : Rec) : List D → List D → Res D := bodyRun 1 (sRet (eOp dIdx (eV 0) (eUn dNeg (eC (.int 1)))))  -- other_of
def C_4_1 (R : Rec) : De := (eTup (aCons (eV 2) (aCons (eCall (R 5) (aCons (eV 3) aNil)) aNil)))
theorem e_C_4_1 (R : Rec) (Γ : List Sl) (S : List D) : C_4_1 R Γ S = (eTup (aCons (eV 2) (aCons (eCall (R 5) (aCons (eV 3) aNil)) aNil))) Γ S := rfl
def B_4 (R : Rec) : List D → List D → Res D := bodyRun 4 (sSeq (sIf (tB (eOp cNotIn (eOp dIdx (eV 0) (eC (.int 0))) (eC (.tup [.str "select", .str "plural"])))) (sRet (eV 0)) sNext) (sSeq (sSet 1 (eComp (iA (eCall (R 1) (aCons (eV 0) aNil))) (.tp [(.nm 2), (.nm 3)]) [2, 3] tTrue (C_4_1 R))) (sRet (eOp dAdd (eCut dCut (eV 0) pNo (pSo (eUn dNeg (eC (.int 2))))) (eTup (aCons (eV 1) (aCons (eCall (R 5) (aCons (eCall (R 2) (aCons (eV 0) aNil)) aNil)) aNil)))))))  -- plain_node
def L_5_1 (R : Rec) : Ds := (sIf (tAndD (tB (eOp cEq (eOp dIdx (eV 2) (eC (.int 0))) (eC (.str "text")))) (tAndD (tTru (oV 1)) (tB (eOp cEq (eOp dIdx (eOp dIdx (oV 1) (eUn dNeg (eC (.int 1)))) (eC (.int 0))) (eC (.str "text")))))) (sSetO 1 (eUn dNeg (eC (.int 1))) (eTup (aCons (eC (.str "text")) (aCons (eOp dAdd (eOp dIdx (eOp dIdx (oV 1) (eUn dNeg (eC (.int 1)))) (eC (.int 1))) (eOp dIdx (eV 2) (eC (.int 1)))) aNil)))) (sIf (tB (eOp cNe (eV 2) (eTup (aCons (eC (.str "text")) (aCons (eC (.str "")) aNil))))) (sAppO 1 (eCall (R 4) (aCons (eV 2) aNil))) sNext))
theorem e_L_5_1 (R : Rec) (Γ : List Sl) (S : List D) : L_5_1 R Γ S = (sIf (tAndD (tB (eOp cEq (eOp dIdx (eV 2) (eC (.int 0))) (eC (.str "text")))) (tAndD (tTru (oV 1)) (tB (eOp cEq (eOp dIdx (eOp dIdx (oV 1) (eUn dNeg (eC (.int 1)))) (eC (.int 0))) (eC (.str "text")))))) (sSetO 1 (eUn dNeg (eC (.int 1))) (eTup (aCons (eC (.str "text")) (aCons (eOp dAdd (eOp dIdx (eOp dIdx (oV 1) (eUn dNeg (eC (.int 1)))) (eC (.int 1))) (eOp dIdx (eV 2) (eC (.int 1)))) aNil)))) (sIf (tB (eOp cNe (eV 2) (eTup (aCons (eC (.str "text")) (aCons (eC (.str "")) aNil))))) (sAppO 1 (eCall (R 4) (aCons (eV 2) aNil))) sNext)) Γ S := rfl
def B_5 (R : Rec) : List D → List D → Res D := bodyRun 3 (sSeq (sOwn 1 (eLst aNil)) (sSeq (sFor (iA (eV 0)) (.nm 2) [2] (L_5_1 R)) (sRetO 1)))  -- plain
def B_148 (R : Rec) : List D → List D → Res D := bodyRun 3 (sSeq (sIf (tOrD (tNotD (tB (eChain oLe oLt (eC (.int 0)) (eV 1) (eUn dLen (eV 0))))) (tB (eOp cNotIn (eOp dIdx (eOp dIdx (eV 0) (eV 1)) (eC (.int 0))) (eTup (aCons (eC (.str "select")) (aCons (eC (.str "plural")) aNil)))))) (sRet (eC .non)) sNext) (sSeq (sIf (tB (eOp cEq (eV 2) (eC (.str "other")))) (sRet (eCall (R 2) (aCons (eOp dIdx (eV 0) (eV 1)) aNil))) sNext) (sRet (eGet1 (eUn dDict (eCall (R 1) (aCons (eOp dIdx (eV 0) (eV 1)) aNil))) (eV 2)))))  -- case_at
def L_149_1 (R : Rec) : Ds := (sSeq (sSet 2 (eCall (R 148) (aCons (eV 2) (aCons (eV 3) (aCons (eV 4) aNil))))) (sIf (tB (eOp cIs (eV 2) (eC .non))) (sRaise 7 "path" (eV 1)) sNext))
theorem e_L_149_1 (R : Rec) (Γ : List Sl) (S : List D) : L_149_1 R Γ S = (sSeq (sSet 2 (eCall (R 148) (aCons (eV 2) (aCons (eV 3) (aCons (eV 4) aNil))))) (sIf (tB (eOp cIs (eV 2) (eC .non))) (sRaise 7 "path" (eV 1)) sNext)) Γ S := rfl
def B_149 (R : Rec) : List D → List D → Res D := bodyRun 5 (sSeq (sSet 2 (eV 0)) (sSeq (sFor (iA (eV 1)) (.tp [(.nm 3), (.nm 4)]) [3, 4] (L_149_1 R)) (sRet (eV 2))))  -- message_at
def C_150_1 (R : Rec) : De := (eTup (aCons (eV 4) (aCons (eIf (tB (eOp cEq (eV 4) (eV 1))) (eV 2) (eV 5)) aNil)))
theorem e_C_150_1 (R : Rec) (Γ : List Sl) (S : List D) : C_150_1 R Γ S = (eTup (aCons (eV 4) (aCons (eIf (tB (eOp cEq (eV 4) (eV 1))) (eV 2) (eV 5)) aNil))) Γ S := rfl
def B_150 (R : Rec) : List D → List D → Res D := bodyRun 6 (sSeq (sIf (tB (eOp cEq (eV 1) (eC (.str "other")))) (sRet (eOp dAdd (eCut dCut (eV 0) pNo (pSo (eUn dNeg (eC (.int 1))))) (eTup (aCons (eV 2) aNil)))) sNext) (sSeq (sSet 3 (eComp (iA (eCall (R 1) (aCons (eV 0) aNil))) (.tp [(.nm 4), (.nm 5)]) [4, 5] tTrue (C_150_1 R))) (sRet (eOp dAdd (eCut dCut (eV 0) pNo (pSo (eUn dNeg (eC (.int 2))))) (eTup (aCons (eV 3) (aCons (eCall (R 2) (aCons (eV 0) aNil)) aNil)))))))  -- with_case
def B_151 (R : Rec) : List D → List D → Res D := bodyRun 6 (sSeq (sExpr (eCall (R 149) (aCons (eV 0) (aCons (eV 1) aNil)))) (sSeq (sIf (tNotD (tTru (eV 1))) (sRet (eUn dList (eV 2))) sNext) (sSeq (sBind (.tp [(.nm 3), (.nm 4)]) (eOp dIdx (eV 1) (eC (.int 0)))) (sSeq (sSet 5 (eCall (R 151) (aCons (eCall (R 148) (aCons (eV 0) (aCons (eV 3) (aCons (eV 4) aNil)))) (aCons (eCut dCut (eV 1) (pSo (eC (.int 1))) pNo) (aCons (eV 2) aNil))))) (sRet (eOp dAdd (eOp dAdd (eCut dCut (eV 0) pNo (pSo (eV 3))) (eLst (aCons (eCall (R 150) (aCons (eOp dIdx (eV 0) (eV 3)) (aCons (eV 4) (aCons (eV 5) aNil)))) aNil))) (eCut dCut (eV 0) (pSo (eOp dAdd (eV 3) (eC (.int 1)))) pNo)))))))  -- replaced
def B_152 (R : Rec) : List D → List D → Res D := bodyRun 1 (sAtt "past" ga_past (eV 0) (eBox (eLst (aCons eDct0 aNil))))  -- Book.__init__
def B_153 (R : Rec) : List D → List D → Res D := bodyRun 1 (sRet (eBox (eUn dDictA (eOp dIdx (eAtt "past" ga_past (eV 0)) (eUn dNeg (eC (.int 1)))))))  -- Book.messages
def B_154 (R : Rec) : List D → List D → Res D := bodyRun 5 (sSeq (sSet 3 (eMeth 22 "messages" (R 153) (eV 0) aNil)) (sSeq (sSet 4 (eOp cInA (eV 1) (eV 3))) (sSeq (sPutP (eV 3) (eV 1) (eCall (R 5) (aCons (eV 2) aNil))) (sSeq (sAppP (eAtt "past" ga_past (eV 0)) (eV 3)) (sRet (eV 4))))))  -- Book.put
def B_155 (R : Rec) : List D → List D → Res D := bodyRun 4 (sSeq (sSet 2 (eMeth 22 "messages" (R 153) (eV 0) aNil)) (sSeq (sIf (tB (eOp cNotInA (eV 1) (eV 2))) (sRaise 8 "key" (eV 1)) sNext) (sSeq (sSet 3 (eOp dIdxA (eV 2) (eV 1))) (sSeq (sDelP (eV 2) (eV 1)) (sSeq (sAppP (eAtt "past" ga_past (eV 0)) (eV 2)) (sRet (eV 3)))))))  -- Book.drop
def B_156 (R : Rec) : List D → List D → Res D := bodyRun 4 (sSeq (sIf (tB (eOp cNotInA (eV 1) (eOp dIdx (eAtt "past" ga_past (eV 0)) (eUn dNeg (eC (.int 1)))))) (sRaise 8 "key" (eV 1)) sNext) (sRet (eMeth 22 "put" (R 154) (eV 0) (aCons (eV 1) (aCons (eCall (R 151) (aCons (eOp dIdxA (eOp dIdx (eAtt "past" ga_past (eV 0)) (eUn dNeg (eC (.int 1)))) (eV 1)) (aCons (eV 2) (aCons (eV 3) aNil)))) aNil)))))  -- Book.change
def B_157 (R : Rec) : List D → List D → Res D := bodyRun 1 (sSeq (sIf (tB (eOp cEq (eUn dLen (eAtt "past" ga_past (eV 0))) (eC (.int 1)))) (sRet (eC (.bl false))) sNext) (sSeq (sPopP (eAtt "past" ga_past (eV 0))) (sRet (eC (.bl true)))))  -- Book.undo
def B_1000 (R : Rec) : List D → List D → Res D := bodyRun 2 (sSeq (sIf (tB (eOp oLt (eV 1) (eUn dLen (eV 0)))) (sRet (eOp dIdx (eV 0) (eV 1))) sNext) (sRet (eC (.int 0))))  -- _law_cell
def L_1001_1 (R : Rec) : Ds := (sIf (tAndD (tB (eOp oGt (eV 0) (eC (.int 0)))) (tB (eOp oLt (eUn dLen (oV 3)) (eV 2)))) (sSeq (sAppO 3 (eOp fMod (eUn dInt (eV 0)) (eC (.int 1000)))) (sSet 0 (eOp fDiv (eV 0) (eC (.int 1000))))) sNext)
theorem e_L_1001_1 (R : Rec) (Γ : List Sl) (S : List D) : L_1001_1 R Γ S = (sIf (tAndD (tB (eOp oGt (eV 0) (eC (.int 0)))) (tB (eOp oLt (eUn dLen (oV 3)) (eV 2)))) (sSeq (sAppO 3 (eOp fMod (eUn dInt (eV 0)) (eC (.int 1000)))) (sSet 0 (eOp fDiv (eV 0) (eC (.int 1000))))) sNext) Γ S := rfl
def L_1001_2 (R : Rec) : Ds := (sSeq (sSet 5 (eOp fMod (eUn dInt (eOp dAdd (eOp dAdd (eOp dMul (eV 5) (eC (.int 16807))) (eOp dMul (eC (.int 7)) (eV 4))) (eC (.int 1)))) (eC (.int 2147483647)))) (sAppO 3 (eOp fMod (eUn dInt (eOp fDiv (eV 5) (eC (.int 997)))) (eC (.int 1000)))))
theorem e_L_1001_2 (R : Rec) (Γ : List Sl) (S : List D) : L_1001_2 R Γ S = (sSeq (sSet 5 (eOp fMod (eUn dInt (eOp dAdd (eOp dAdd (eOp dMul (eV 5) (eC (.int 16807))) (eOp dMul (eC (.int 7)) (eV 4))) (eC (.int 1)))) (eC (.int 2147483647)))) (sAppO 3 (eOp fMod (eUn dInt (eOp fDiv (eV 5) (eC (.int 997)))) (eC (.int 1000))))) Γ S := rfl
def B_1001 (R : Rec) : List D → List D → Res D := bodyRun 6 (sSeq (sOwn 3 (eLst aNil)) (sSeq (sIf (tB (eOp oLt (eV 0) (eC (.int 0)))) (sSet 0 (eOp fSub (eC (.int 1)) (eOp dMul (eC (.int 2)) (eV 0)))) sNext) (sSeq (sIf (tB (eOp oGe (eV 0) (eOp fPow (eC (.int 10)) (eC (.int 18))))) (sSeq (sFor (iR1 (eC (.int 60))) (.nm 4) [4] (L_1001_1 R)) (sRetO 3)) sNext) (sSeq (sSet 5 (eOp fMod (eUn dInt (eOp dAdd (eOp dAdd (eOp dMul (eV 0) (eC (.int 48271))) (eOp dMul (eV 1) (eC (.int 69621)))) (eC (.int 11)))) (eC (.int 2147483647)))) (sSeq (sClr [4]) (sSeq (sFor (iR1 (eV 2)) (.nm 4) [4] (L_1001_2 R)) (sRetO 3)))))))  -- _law_row
def L_1002_1 (R : Rec) : Ds := (sSet 3 (eOp dAdd (eV 3) (eCall (R 1001) (aCons (eCall (R 1000) (aCons (eV 0) (aCons (eV 4) aNil))) (aCons (eV 4) (aCons (eC (.int 12)) aNil))))))
theorem e_L_1002_1 (R : Rec) (Γ : List Sl) (S : List D) : L_1002_1 R Γ S = (sSet 3 (eOp dAdd (eV 3) (eCall (R 1001) (aCons (eCall (R 1000) (aCons (eV 0) (aCons (eV 4) aNil))) (aCons (eV 4) (aCons (eC (.int 12)) aNil)))))) Γ S := rfl
def B_1002 (R : Rec) : List D → List D → Res D := bodyRun 5 (sSeq (sSet 3 (eLst aNil)) (sSeq (sFor (iR2 (eV 1) (eV 2)) (.nm 4) [4] (L_1002_1 R)) (sRet (eBox (eLst (aCons (eV 3) (aCons (eC (.int 0)) aNil)))))))  -- _law_box
def B_1003 (R : Rec) : List D → List D → Res D := bodyRun 3 (sSeq (sSet 2 (eOp dIdx (eV 0) (eC (.int 1)))) (sSeq (sSetP (eV 0) (eC (.int 1)) (eOp dAdd (eV 2) (eC (.int 1)))) (sSeq (sIf (tB (eOp oLt (eV 2) (eUn dLen (eOp dIdx (eV 0) (eC (.int 0)))))) (sRet (eOp fMod (eUn dInt (eOp dIdx (eOp dIdx (eV 0) (eC (.int 0))) (eV 2))) (eV 1))) sNext) (sRet (eOp fMod (eUn dInt (eOp dAdd (eOp dMul (eV 2) (eC (.int 7))) (eC (.int 3)))) (eV 1))))))  -- _law_draw
def B_1004 (R : Rec) : List D → List D → Res D := bodyRun 2 (sRet (eOp cEq (eUn dReprA (eV 0)) (eUn dReprA (eV 1))))  -- _law_same
def C_1005_1 (R : Rec) : De := (eTup (aCons (eV 10) (aCons (eCall (R 1005) (aCons (eV 0) (aCons (eOp fSub (eV 1) (eC (.int 1))) (aCons (eV 2) (aCons (eV 3) aNil))))) aNil)))
theorem e_C_1005_1 (R : Rec) (Γ : List Sl) (S : List D) : C_1005_1 R Γ S = (eTup (aCons (eV 10) (aCons (eCall (R 1005) (aCons (eV 0) (aCons (eOp fSub (eV 1) (eC (.int 1))) (aCons (eV 2) (aCons (eV 3) aNil))))) aNil))) Γ S := rfl
def L_1005_2 (R : Rec) : Ds := (sIf (tB (eOp cEq (eCall (R 1003) (aCons (eV 0) (aCons (eC (.int 4)) aNil))) (eC (.int 0)))) (sAppO 7 (eTup (aCons (eV 8) (aCons (eCall (R 1005) (aCons (eV 0) (aCons (eOp fSub (eV 1) (eC (.int 1))) (aCons (eC (.bl true)) (aCons (eV 3) aNil))))) aNil)))) sNext)
theorem e_L_1005_2 (R : Rec) (Γ : List Sl) (S : List D) : L_1005_2 R Γ S = (sIf (tB (eOp cEq (eCall (R 1003) (aCons (eV 0) (aCons (eC (.int 4)) aNil))) (eC (.int 0)))) (sAppO 7 (eTup (aCons (eV 8) (aCons (eCall (R 1005) (aCons (eV 0) (aCons (eOp fSub (eV 1) (eC (.int 1))) (aCons (eC (.bl true)) (aCons (eV 3) aNil))))) aNil)))) sNext) Γ S := rfl
def L_1005_3 (R : Rec) : Ds := (sSeq (sSet 6 (eCall (R 1003) (aCons (eV 0) (aCons (eC (.int 8)) aNil)))) (sIf (tAndD (tB (eOp oGt (eV 1) (eC (.int 0)))) (tB (eOp oLt (eV 6) (eC (.int 2))))) (sSeq (sOwn 7 (eComp (iA (eLst (aCons (eC (.str "he")) (aCons (eC (.str "she")) aNil)))) (.nm 10) [10] (tB (eOp oGt (eCall (R 1003) (aCons (eV 0) (aCons (eC (.int 3)) aNil))) (eC (.int 0)))) (C_1005_1 R))) (sSeq (sSettle 7) (sAppO 4 (eTup (aCons (eC (.str "select")) (aCons (eC (.str "w")) (aCons (eV 7) (aCons (eCall (R 1005) (aCons (eV 0) (aCons (eOp fSub (eV 1) (eC (.int 1))) (aCons (eV 2) (aCons (eV 3) aNil))))) aNil)))))))) (sIf (tAndD (tB (eOp oGt (eV 1) (eC (.int 0)))) (tB (eOp oLt (eV 6) (eC (.int 5))))) (sSeq (sOwn 7 (eLst aNil)) (sSeq (sFor (iA (eLst (aCons (eC (.int 0)) (aCons (eC (.int 1)) (aCons (eC (.int 3)) (aCons (eC (.str "one")) (aCons (eC (.str "few")) (aCons (eC (.str "many")) aNil)))))))) (.nm 8) [8] (L_1005_2 R)) (sSeq (sSet 9 (eOp dIdx (eV 3) (eOp fMod (eUn dInt (eCall (R 1003) (aCons (eV 0) (aCons (eC (.int 900)) aNil)))) (eUn dLen (eV 3))))) (sSeq (sSettle 7) (sAppO 4 (eTup (aCons (eC (.str "plural")) (aCons (eV 9) (aCons (eOp dIdx (eLst (aCons (eC (.int 0)) (aCons (eC (.int 0)) (aCons (eC (.int 1)) (aCons (eC (.int 2)) aNil))))) (eCall (R 1003) (aCons (eV 0) (aCons (eC (.int 4)) aNil)))) (aCons (eV 7) (aCons (eCall (R 1005) (aCons (eV 0) (aCons (eOp fSub (eV 1) (eC (.int 1))) (aCons (eC (.bl true)) (aCons (eV 3) aNil))))) aNil))))))))))) (sIf (tAndD (tB (eOp cEq (eV 6) (eC (.int 5)))) (tTru (eV 2))) (sAppO 4 (eTup (aCons (eC (.str "number")) aNil))) (sIf (tB (eOp cEq (eV 6) (eC (.int 6)))) (sAppO 4 (eTup (aCons (eC (.str "show")) (aCons (eOp dIdx (eLst (aCons (eC (.str "n")) (aCons (eC (.str "x")) (aCons (eC (.str "w")) aNil)))) (eCall (R 1003) (aCons (eV 0) (aCons (eC (.int 3)) aNil)))) aNil)))) (sAppO 4 (eTup (aCons (eC (.str "text")) (aCons (eOp dIdx (eLst (aCons (eC (.str "")) (aCons (eC (.str "a")) (aCons (eC (.str "b")) (aCons (eC (.str "1")) (aCons (eC (.str "2")) aNil)))))) (eCall (R 1003) (aCons (eV 0) (aCons (eC (.int 5)) aNil)))) aNil)))))))))
theorem e_L_1005_3 (R : Rec) (Γ : List Sl) (S : List D) : L_1005_3 R Γ S = (sSeq (sSet 6 (eCall (R 1003) (aCons (eV 0) (aCons (eC (.int 8)) aNil)))) (sIf (tAndD (tB (eOp oGt (eV 1) (eC (.int 0)))) (tB (eOp oLt (eV 6) (eC (.int 2))))) (sSeq (sOwn 7 (eComp (iA (eLst (aCons (eC (.str "he")) (aCons (eC (.str "she")) aNil)))) (.nm 10) [10] (tB (eOp oGt (eCall (R 1003) (aCons (eV 0) (aCons (eC (.int 3)) aNil))) (eC (.int 0)))) (C_1005_1 R))) (sSeq (sSettle 7) (sAppO 4 (eTup (aCons (eC (.str "select")) (aCons (eC (.str "w")) (aCons (eV 7) (aCons (eCall (R 1005) (aCons (eV 0) (aCons (eOp fSub (eV 1) (eC (.int 1))) (aCons (eV 2) (aCons (eV 3) aNil))))) aNil)))))))) (sIf (tAndD (tB (eOp oGt (eV 1) (eC (.int 0)))) (tB (eOp oLt (eV 6) (eC (.int 5))))) (sSeq (sOwn 7 (eLst aNil)) (sSeq (sFor (iA (eLst (aCons (eC (.int 0)) (aCons (eC (.int 1)) (aCons (eC (.int 3)) (aCons (eC (.str "one")) (aCons (eC (.str "few")) (aCons (eC (.str "many")) aNil)))))))) (.nm 8) [8] (L_1005_2 R)) (sSeq (sSet 9 (eOp dIdx (eV 3) (eOp fMod (eUn dInt (eCall (R 1003) (aCons (eV 0) (aCons (eC (.int 900)) aNil)))) (eUn dLen (eV 3))))) (sSeq (sSettle 7) (sAppO 4 (eTup (aCons (eC (.str "plural")) (aCons (eV 9) (aCons (eOp dIdx (eLst (aCons (eC (.int 0)) (aCons (eC (.int 0)) (aCons (eC (.int 1)) (aCons (eC (.int 2)) aNil))))) (eCall (R 1003) (aCons (eV 0) (aCons (eC (.int 4)) aNil)))) (aCons (eV 7) (aCons (eCall (R 1005) (aCons (eV 0) (aCons (eOp fSub (eV 1) (eC (.int 1))) (aCons (eC (.bl true)) (aCons (eV 3) aNil))))) aNil))))))))))) (sIf (tAndD (tB (eOp cEq (eV 6) (eC (.int 5)))) (tTru (eV 2))) (sAppO 4 (eTup (aCons (eC (.str "number")) aNil))) (sIf (tB (eOp cEq (eV 6) (eC (.int 6)))) (sAppO 4 (eTup (aCons (eC (.str "show")) (aCons (eOp dIdx (eLst (aCons (eC (.str "n")) (aCons (eC (.str "x")) (aCons (eC (.str "w")) aNil)))) (eCall (R 1003) (aCons (eV 0) (aCons (eC (.int 3)) aNil)))) aNil)))) (sAppO 4 (eTup (aCons (eC (.str "text")) (aCons (eOp dIdx (eLst (aCons (eC (.str "")) (aCons (eC (.str "a")) (aCons (eC (.str "b")) (aCons (eC (.str "1")) (aCons (eC (.str "2")) aNil)))))) (eCall (R 1003) (aCons (eV 0) (aCons (eC (.int 5)) aNil)))) aNil))))))))) Γ S := rfl
def B_1005 (R : Rec) : List D → List D → Res D := bodyRun 11 (sSeq (sOwn 4 (eLst aNil)) (sSeq (sFor (iR1 (eOp dAdd (eC (.int 1)) (eCall (R 1003) (aCons (eV 0) (aCons (eC (.int 2)) aNil))))) (.nm 5) [5, 6, 7, 8, 9] (L_1005_3 R)) (sRetO 4)))  -- _law_message
def C_1006_1 (R : Rec) : De := (eOp dAdd (eTup (aCons (eTup (aCons (eV 2) (aCons (eV 4) aNil))) aNil)) (eV 6))
theorem e_C_1006_1 (R : Rec) (Γ : List Sl) (S : List D) : C_1006_1 R Γ S = (eOp dAdd (eTup (aCons (eTup (aCons (eV 2) (aCons (eV 4) aNil))) aNil)) (eV 6)) Γ S := rfl
def L_1006_2 (R : Rec) : Ds := (sSeq (sAppO 1 (eTup (aCons (eTup (aCons (eV 2) (aCons (eV 4) aNil))) aNil))) (sOwn 1 (eOp onL (oV 1) (eComp (iA (eCall (R 1006) (aCons (eV 5) aNil))) (.nm 6) [6] tTrue (C_1006_1 R)))))
theorem e_L_1006_2 (R : Rec) (Γ : List Sl) (S : List D) : L_1006_2 R Γ S = (sSeq (sAppO 1 (eTup (aCons (eTup (aCons (eV 2) (aCons (eV 4) aNil))) aNil))) (sOwn 1 (eOp onL (oV 1) (eComp (iA (eCall (R 1006) (aCons (eV 5) aNil))) (.nm 6) [6] tTrue (C_1006_1 R))))) Γ S := rfl
def L_1006_3 (R : Rec) : Ds := (sSeq (sSet 3 (eOp dIdx (eV 0) (eV 2))) (sIf (tB (eOp cIn (eOp dIdx (eV 3) (eC (.int 0))) (eLst (aCons (eC (.str "select")) (aCons (eC (.str "plural")) aNil))))) (sFor (iA (eOp dAdd (eOp dIdx (eV 3) (eUn dNeg (eC (.int 2)))) (eLst (aCons (eTup (aCons (eC (.str "other")) (aCons (eOp dIdx (eV 3) (eUn dNeg (eC (.int 1)))) aNil))) aNil)))) (.tp [(.nm 4), (.nm 5)]) [4, 5] (L_1006_2 R)) sNext))
theorem e_L_1006_3 (R : Rec) (Γ : List Sl) (S : List D) : L_1006_3 R Γ S = (sSeq (sSet 3 (eOp dIdx (eV 0) (eV 2))) (sIf (tB (eOp cIn (eOp dIdx (eV 3) (eC (.int 0))) (eLst (aCons (eC (.str "select")) (aCons (eC (.str "plural")) aNil))))) (sFor (iA (eOp dAdd (eOp dIdx (eV 3) (eUn dNeg (eC (.int 2)))) (eLst (aCons (eTup (aCons (eC (.str "other")) (aCons (eOp dIdx (eV 3) (eUn dNeg (eC (.int 1)))) aNil))) aNil)))) (.tp [(.nm 4), (.nm 5)]) [4, 5] (L_1006_2 R)) sNext)) Γ S := rfl
def B_1006 (R : Rec) : List D → List D → Res D := bodyRun 7 (sSeq (sOwn 1 (eLst aNil)) (sSeq (sFor (iR1 (eUn dLen (eV 0))) (.nm 2) [2, 3, 4, 5] (L_1006_3 R)) (sRetO 1)))  -- _law_paths
def C_1007_1 (R : Rec) : De := (eV 8)
theorem e_C_1007_1 (R : Rec) (Γ : List Sl) (S : List D) : C_1007_1 R Γ S = (eV 8) Γ S := rfl
def L_1007_2 (R : Rec) : Ds := (sSeq (sIf (tOrD (tB (eOp oLt (eV 3) (eC (.int 0)))) (tOrD (tB (eOp oGe (eV 3) (eUn dLen (eV 2)))) (tB (eOp cNotIn (eOp dIdx (eOp dIdx (eV 2) (eV 3)) (eC (.int 0))) (eLst (aCons (eC (.str "select")) (aCons (eC (.str "plural")) aNil))))))) (sRet (eLst aNil)) sNext) (sSeq (sSet 5 (eOp dAdd (eOp dIdx (eOp dIdx (eV 2) (eV 3)) (eUn dNeg (eC (.int 2)))) (eLst (aCons (eTup (aCons (eC (.str "other")) (aCons (eOp dIdx (eOp dIdx (eV 2) (eV 3)) (eUn dNeg (eC (.int 1)))) aNil))) aNil)))) (sSeq (sSet 6 (eComp (iA (eV 5)) (.tp [(.nm 7), (.nm 8)]) [7, 8] (tTru (eCall (R 1004) (aCons (eV 7) (aCons (eV 4) aNil)))) (C_1007_1 R))) (sSeq (sIf (tB (eOp cEq (eV 6) (eLst aNil))) (sRet (eLst aNil)) sNext) (sSet 2 (eOp dIdx (eV 6) (eC (.int 0))))))))
theorem e_L_1007_2 (R : Rec) (Γ : List Sl) (S : List D) : L_1007_2 R Γ S = (sSeq (sIf (tOrD (tB (eOp oLt (eV 3) (eC (.int 0)))) (tOrD (tB (eOp oGe (eV 3) (eUn dLen (eV 2)))) (tB (eOp cNotIn (eOp dIdx (eOp dIdx (eV 2) (eV 3)) (eC (.int 0))) (eLst (aCons (eC (.str "select")) (aCons (eC (.str "plural")) aNil))))))) (sRet (eLst aNil)) sNext) (sSeq (sSet 5 (eOp dAdd (eOp dIdx (eOp dIdx (eV 2) (eV 3)) (eUn dNeg (eC (.int 2)))) (eLst (aCons (eTup (aCons (eC (.str "other")) (aCons (eOp dIdx (eOp dIdx (eV 2) (eV 3)) (eUn dNeg (eC (.int 1)))) aNil))) aNil)))) (sSeq (sSet 6 (eComp (iA (eV 5)) (.tp [(.nm 7), (.nm 8)]) [7, 8] (tTru (eCall (R 1004) (aCons (eV 7) (aCons (eV 4) aNil)))) (C_1007_1 R))) (sSeq (sIf (tB (eOp cEq (eV 6) (eLst aNil))) (sRet (eLst aNil)) sNext) (sSet 2 (eOp dIdx (eV 6) (eC (.int 0)))))))) Γ S := rfl
def B_1007 (R : Rec) : List D → List D → Res D := bodyRun 9 (sSeq (sSet 2 (eV 0)) (sSeq (sFor (iA (eV 1)) (.tp [(.nm 3), (.nm 4)]) [3, 4, 5, 6] (L_1007_2 R)) (sRet (eLst (aCons (eV 2) aNil)))))  -- _law_at
def L_1008_1 (R : Rec) : Ds := (sIf (tTru (eCall (R 1004) (aCons (eV 8) (aCons (eV 4) aNil)))) (sAppO 6 (eTup (aCons (eV 8) (aCons (eCall (R 1008) (aCons (eV 9) (aCons (eCut dCut (eV 1) (pSo (eC (.int 1))) pNo) (aCons (eV 2) aNil)))) aNil)))) (sAppO 6 (eTup (aCons (eV 8) (aCons (eV 9) aNil)))))
theorem e_L_1008_1 (R : Rec) (Γ : List Sl) (S : List D) : L_1008_1 R Γ S = (sIf (tTru (eCall (R 1004) (aCons (eV 8) (aCons (eV 4) aNil)))) (sAppO 6 (eTup (aCons (eV 8) (aCons (eCall (R 1008) (aCons (eV 9) (aCons (eCut dCut (eV 1) (pSo (eC (.int 1))) pNo) (aCons (eV 2) aNil)))) aNil)))) (sAppO 6 (eTup (aCons (eV 8) (aCons (eV 9) aNil))))) Γ S := rfl
def B_1008 (R : Rec) : List D → List D → Res D := bodyRun 10 (sSeq (sIf (tB (eOp cEq (eV 1) (eTup aNil))) (sRet (eUn dList (eV 2))) sNext) (sSeq (sBind (.tp [(.nm 3), (.nm 4)]) (eOp dIdx (eV 1) (eC (.int 0)))) (sSeq (sSet 5 (eOp dIdx (eV 0) (eV 3))) (sSeq (sOwn 6 (eLst aNil)) (sSeq (sSet 7 (eOp dIdx (eV 5) (eUn dNeg (eC (.int 1))))) (sSeq (sFor (iA (eOp dIdx (eV 5) (eUn dNeg (eC (.int 2))))) (.tp [(.nm 8), (.nm 9)]) [8, 9] (L_1008_1 R)) (sSeq (sIf (tB (eOp cEq (eV 4) (eC (.str "other")))) (sSet 7 (eCall (R 1008) (aCons (eV 7) (aCons (eCut dCut (eV 1) (pSo (eC (.int 1))) pNo) (aCons (eV 2) aNil))))) sNext) (sSeq (sSettle 6) (sRet (eOp dAdd (eOp dAdd (eCut dCut (eV 0) pNo (pSo (eV 3))) (eLst (aCons (eOp dAdd (eCut dCut (eV 5) pNo (pSo (eUn dNeg (eC (.int 2))))) (eTup (aCons (eV 6) (aCons (eV 7) aNil)))) aNil))) (eCut dCut (eV 0) (pSo (eOp dAdd (eV 3) (eC (.int 1)))) pNo)))))))))))  -- _law_put
def B_1009 (R : Rec) : List D → List D → Res D := bodyRun 7 (sSeq (sSet 2 (eOp dAdd (eLst (aCons (eTup aNil) aNil)) (eCall (R 1006) (aCons (eV 1) aNil)))) (sSeq (sSet 3 (eOp dIdx (eV 2) (eOp fMod (eUn dInt (eCall (R 1003) (aCons (eV 0) (aCons (eC (.int 900)) aNil)))) (eUn dLen (eV 2))))) (sSeq (sSet 4 (eCall (R 1003) (aCons (eV 0) (aCons (eC (.int 8)) aNil)))) (sSeq (sIf (tB (eOp cEq (eV 4) (eC (.int 0)))) (sRet (eOp dAdd (eV 3) (eTup (aCons (eTup (aCons (eOp fSub (eCall (R 1003) (aCons (eV 0) (aCons (eC (.int 5)) aNil))) (eC (.int 1))) (aCons (eOp dIdx (eLst (aCons (eC (.str "other")) (aCons (eC (.str "he")) (aCons (eC (.int 0)) (aCons (eC (.str "one")) aNil))))) (eCall (R 1003) (aCons (eV 0) (aCons (eC (.int 4)) aNil)))) aNil))) aNil)))) sNext) (sSeq (sIf (tAndD (tB (eOp cEq (eV 4) (eC (.int 1)))) (tB (eOp cNe (eV 3) (eTup aNil)))) (sSeq (sBind (.tp [(.nm 5), (.nm 6)]) (eOp dIdx (eV 3) (eUn dNeg (eC (.int 1))))) (sRet (eOp dAdd (eCut dCut (eV 3) pNo (pSo (eUn dNeg (eC (.int 1))))) (eTup (aCons (eTup (aCons (eV 5) (aCons (eOp dIdx (eLst (aCons (eC (.int 7)) (aCons (eC (.str "it")) (aCons (eC (.str "many")) (aCons (eC (.int 1)) aNil))))) (eCall (R 1003) (aCons (eV 0) (aCons (eC (.int 4)) aNil)))) aNil))) aNil))))) sNext) (sSeq (sIf (tAndD (tB (eOp cEq (eV 4) (eC (.int 2)))) (tB (eOp cNe (eV 3) (eTup aNil)))) (sRet (eOp dAdd (eTup (aCons (eTup (aCons (eOp dAdd (eOp dIdx (eOp dIdx (eV 3) (eC (.int 0))) (eC (.int 0))) (eC (.int 1))) (aCons (eOp dIdx (eOp dIdx (eV 3) (eC (.int 0))) (eC (.int 1))) aNil))) aNil)) (eCut dCut (eV 3) (pSo (eC (.int 1))) pNo))) sNext) (sRet (eV 3))))))))  -- _law_path
def C_1010_1 (R : Rec) : De := (eTup (aCons (eV 4) (aCons (eCall (R 1010) (aCons (eV 5) aNil)) aNil)))
theorem e_C_1010_1 (R : Rec) (Γ : List Sl) (S : List D) : C_1010_1 R Γ S = (eTup (aCons (eV 4) (aCons (eCall (R 1010) (aCons (eV 5) aNil)) aNil))) Γ S := rfl
def L_1010_2 (R : Rec) : Ds := (sIf (tB (eOp cEq (eOp dIdx (eV 2) (eC (.int 0))) (eC (.str "text")))) (sIf (tAndD (tB (eOp oGt (eUn dLen (oV 1)) (eC (.int 0)))) (tB (eOp cEq (eOp dIdx (eOp dIdx (oV 1) (eUn dNeg (eC (.int 1)))) (eC (.int 0))) (eC (.str "text"))))) (sSetO 1 (eUn dNeg (eC (.int 1))) (eTup (aCons (eC (.str "text")) (aCons (eOp dAdd (eOp dIdx (eOp dIdx (oV 1) (eUn dNeg (eC (.int 1)))) (eC (.int 1))) (eOp dIdx (eV 2) (eC (.int 1)))) aNil)))) (sIf (tB (eOp cNe (eOp dIdx (eV 2) (eC (.int 1))) (eC (.str "")))) (sAppO 1 (eV 2)) sNext)) (sIf (tB (eOp cIn (eOp dIdx (eV 2) (eC (.int 0))) (eLst (aCons (eC (.str "select")) (aCons (eC (.str "plural")) aNil))))) (sSeq (sSet 3 (eComp (iA (eOp dIdx (eV 2) (eUn dNeg (eC (.int 2))))) (.tp [(.nm 4), (.nm 5)]) [4, 5] tTrue (C_1010_1 R))) (sAppO 1 (eOp dAdd (eCut dCut (eV 2) pNo (pSo (eUn dNeg (eC (.int 2))))) (eTup (aCons (eV 3) (aCons (eCall (R 1010) (aCons (eOp dIdx (eV 2) (eUn dNeg (eC (.int 1)))) aNil)) aNil)))))) (sAppO 1 (eV 2))))
theorem e_L_1010_2 (R : Rec) (Γ : List Sl) (S : List D) : L_1010_2 R Γ S = (sIf (tB (eOp cEq (eOp dIdx (eV 2) (eC (.int 0))) (eC (.str "text")))) (sIf (tAndD (tB (eOp oGt (eUn dLen (oV 1)) (eC (.int 0)))) (tB (eOp cEq (eOp dIdx (eOp dIdx (oV 1) (eUn dNeg (eC (.int 1)))) (eC (.int 0))) (eC (.str "text"))))) (sSetO 1 (eUn dNeg (eC (.int 1))) (eTup (aCons (eC (.str "text")) (aCons (eOp dAdd (eOp dIdx (eOp dIdx (oV 1) (eUn dNeg (eC (.int 1)))) (eC (.int 1))) (eOp dIdx (eV 2) (eC (.int 1)))) aNil)))) (sIf (tB (eOp cNe (eOp dIdx (eV 2) (eC (.int 1))) (eC (.str "")))) (sAppO 1 (eV 2)) sNext)) (sIf (tB (eOp cIn (eOp dIdx (eV 2) (eC (.int 0))) (eLst (aCons (eC (.str "select")) (aCons (eC (.str "plural")) aNil))))) (sSeq (sSet 3 (eComp (iA (eOp dIdx (eV 2) (eUn dNeg (eC (.int 2))))) (.tp [(.nm 4), (.nm 5)]) [4, 5] tTrue (C_1010_1 R))) (sAppO 1 (eOp dAdd (eCut dCut (eV 2) pNo (pSo (eUn dNeg (eC (.int 2))))) (eTup (aCons (eV 3) (aCons (eCall (R 1010) (aCons (eOp dIdx (eV 2) (eUn dNeg (eC (.int 1)))) aNil)) aNil)))))) (sAppO 1 (eV 2)))) Γ S := rfl
def B_1010 (R : Rec) : List D → List D → Res D := bodyRun 6 (sSeq (sOwn 1 (eLst aNil)) (sSeq (sFor (iA (eV 0)) (.nm 2) [2, 3] (L_1010_2 R)) (sRetO 1)))  -- _law_plain
def B_1011 (R : Rec) : List D → List D → Res D := bodyRun 5 (sSeq (sSet 2 (eLst (aCons (eC (.str "a")) (aCons (eC (.str "b")) (aCons (eC (.str "files")) (aCons (eC (.str "zz")) aNil)))))) (sSeq (sSet 3 (eOp dIdx (eV 2) (eCall (R 1003) (aCons (eV 0) (aCons (eC (.int 4)) aNil))))) (sSeq (sSet 4 (eCall (R 1003) (aCons (eV 0) (aCons (eC (.int 9)) aNil)))) (sSeq (sIf (tB (eOp oLt (eV 4) (eC (.int 3)))) (sRet (eTup (aCons (eC (.str "put")) (aCons (eV 3) (aCons (eCall (R 1005) (aCons (eV 0) (aCons (eC (.int 2)) (aCons (eC (.bl false)) (aCons (eLst (aCons (eC (.str "m")) (aCons (eC (.str "n")) aNil))) aNil))))) aNil))))) sNext) (sSeq (sIf (tB (eOp cEq (eV 4) (eC (.int 3)))) (sRet (eTup (aCons (eC (.str "drop")) (aCons (eV 3) aNil)))) sNext) (sSeq (sIf (tB (eOp oLt (eV 4) (eC (.int 6)))) (sRet (eTup (aCons (eC (.str "undo")) aNil))) sNext) (sRet (eTup (aCons (eC (.str "change")) (aCons (eV 3) (aCons (eCall (R 1009) (aCons (eV 0) (aCons (eGet2 (eV 1) (eV 3) (eLst aNil)) aNil))) (aCons (eCall (R 1005) (aCons (eV 0) (aCons (eC (.int 1)) (aCons (eC (.bl false)) (aCons (eLst (aCons (eC (.str "m")) (aCons (eC (.str "n")) aNil))) aNil))))) aNil))))))))))))  -- _law_deed
def L_1012_1 (R : Rec) : Ds := (sPutO 2 (eV 3) (eOp dIdxA (eOp dIdx (eV 0) (eUn dNeg (eC (.int 1)))) (eV 3)))
theorem e_L_1012_1 (R : Rec) (Γ : List Sl) (S : List D) : L_1012_1 R Γ S = (sPutO 2 (eV 3) (eOp dIdxA (eOp dIdx (eV 0) (eUn dNeg (eC (.int 1)))) (eV 3))) Γ S := rfl
def B_1012 (R : Rec) : List D → List D → Res D := bodyRun 6 (sSeq (sOwn 2 eDct0) (sSeq (sForKL 0 (.nm 3) [3] (L_1012_1 R)) (sSeq (sIf (tB (eOp cEq (eOp dIdx (eV 1) (eC (.int 0))) (eC (.str "undo")))) (sSeq (sIf (tB (eOp cEq (eUn dLen (eV 0)) (eC (.int 1)))) (sRet (eC (.bl false))) sNext) (sSeq (sPopP (eV 0)) (sRet (eC (.bl true))))) sNext) (sSeq (sSet 3 (eOp dIdx (eV 1) (eC (.int 1)))) (sSeq (sSet 4 (eOp cInA (eV 3) (oV 2))) (sSeq (sIf (tB (eOp cEq (eOp dIdx (eV 1) (eC (.int 0))) (eC (.str "put")))) (sSeq (sPutO 2 (eV 3) (eCall (R 1010) (aCons (eOp dIdx (eV 1) (eC (.int 2))) aNil))) (sSeq (sSettle 2) (sSeq (sAppP (eV 0) (eV 2)) (sRet (eV 4))))) sNext) (sSeq (sIf (tNotD (tTru (eV 4))) (sRet (eTup (aCons (eC (.str "no key")) (aCons (eV 3) aNil)))) sNext) (sSeq (sIf (tB (eOp cEq (eOp dIdx (eV 1) (eC (.int 0))) (eC (.str "drop")))) (sSeq (sPopO 5 2 (eV 3)) (sSeq (sSettle 2) (sSeq (sAppP (eV 0) (eV 2)) (sRet (eV 5))))) sNext) (sSeq (sIf (tB (eOp cEq (eCall (R 1007) (aCons (eOp dIdxA (oV 2) (eV 3)) (aCons (eOp dIdx (eV 1) (eC (.int 2))) aNil))) (eLst aNil))) (sRet (eTup (aCons (eC (.str "no place")) (aCons (eOp dIdx (eV 1) (eC (.int 2))) aNil)))) sNext) (sSeq (sPutO 2 (eV 3) (eCall (R 1010) (aCons (eCall (R 1008) (aCons (eOp dIdxA (oV 2) (eV 3)) (aCons (eOp dIdx (eV 1) (eC (.int 2))) (aCons (eOp dIdx (eV 1) (eC (.int 3))) aNil)))) aNil))) (sSeq (sSettle 2) (sSeq (sAppP (eV 0) (eV 2)) (sRet (eC (.bl true)))))))))))))))  -- _law_done
def B_1013 (R : Rec) : List D → List D → Res D := bodyRun 2 (sSeq (sIf (tB (eOp cEq (eOp dIdx (eV 1) (eC (.int 0))) (eC (.str "undo")))) (sRet (eMeth 22 "undo" (R 157) (eV 0) aNil)) sNext) (sSeq (sIf (tB (eOp cEq (eOp dIdx (eV 1) (eC (.int 0))) (eC (.str "put")))) (sRet (eMeth 22 "put" (R 154) (eV 0) (aCons (eOp dIdx (eV 1) (eC (.int 1))) (aCons (eOp dIdx (eV 1) (eC (.int 2))) aNil)))) sNext) (sSeq (sIf (tB (eOp cEq (eOp dIdx (eV 1) (eC (.int 0))) (eC (.str "drop")))) (sRet (eMeth 22 "drop" (R 155) (eV 0) (aCons (eOp dIdx (eV 1) (eC (.int 1))) aNil))) sNext) (sRet (eMeth 22 "change" (R 156) (eV 0) (aCons (eOp dIdx (eV 1) (eC (.int 1))) (aCons (eOp dIdx (eV 1) (eC (.int 2))) (aCons (eOp dIdx (eV 1) (eC (.int 3))) aNil))))))))  -- _law_call
def B_1014 (R : Rec) : List D → List D → Res D := bodyRun 3 (sTryN [(2, fx_NoSuchKey, (sRet (eTup (aCons (eC (.str "no key")) (aCons (eXf 2 "key" gx_key) aNil))))), (2, fx_NoSuchPlace, (sRet (eTup (aCons (eC (.str "no place")) (aCons (eXf 2 "path" gx_path) aNil)))))] (sRet (eCall (R 1013) (aCons (eV 0) (aCons (eV 1) aNil)))))  -- _law_told
def L_1015_1 (R : Rec) : Ds := (sIf (tNotD (tTru (eCall (R 1004) (aCons (eOp dIdxA (eV 7) (eV 8)) (aCons (eOp dIdxA (eOp dIdx (eV 3) (eUn dNeg (eC (.int 1)))) (eV 8)) aNil))))) (sRet (eC (.bl false))) sNext)
theorem e_L_1015_1 (R : Rec) (Γ : List Sl) (S : List D) : L_1015_1 R Γ S = (sIf (tNotD (tTru (eCall (R 1004) (aCons (eOp dIdxA (eV 7) (eV 8)) (aCons (eOp dIdxA (eOp dIdx (eV 3) (eUn dNeg (eC (.int 1)))) (eV 8)) aNil))))) (sRet (eC (.bl false))) sNext) Γ S := rfl
def L_1015_2 (R : Rec) : Ds := (sSeq (sSet 5 (eCall (R 1011) (aCons (eV 1) (aCons (eOp dIdx (eV 3) (eUn dNeg (eC (.int 1)))) aNil)))) (sSeq (sSet 6 (eCall (R 1012) (aCons (eV 3) (aCons (eV 5) aNil)))) (sSeq (sIf (tNotD (tTru (eCall (R 1004) (aCons (eCall (R 1014) (aCons (eV 2) (aCons (eV 5) aNil))) (aCons (eV 6) aNil))))) (sRet (eC (.bl false))) sNext) (sSeq (sSet 7 (eMeth 22 "messages" (R 153) (eV 2) aNil)) (sSeq (sIf (tOrD (tNotD (tTru (eUn (dIsi "dict") (eV 7)))) (tNotD (tTru (eCall (R 1004) (aCons (eUn dSorted (eUn dListA (eV 7))) (aCons (eUn dSorted (eUn dListA (eOp dIdx (eV 3) (eUn dNeg (eC (.int 1)))))) aNil)))))) (sRet (eC (.bl false))) sNext) (sSeq (sForKL 3 (.nm 8) [8] (L_1015_1 R)) (sSeq (sPutP (eV 7) (eC (.str "spoilt")) (eLst aNil)) (sPop2P (eV 7) (eC (.str "a")) (eC .non)))))))))
theorem e_L_1015_2 (R : Rec) (Γ : List Sl) (S : List D) : L_1015_2 R Γ S = (sSeq (sSet 5 (eCall (R 1011) (aCons (eV 1) (aCons (eOp dIdx (eV 3) (eUn dNeg (eC (.int 1)))) aNil)))) (sSeq (sSet 6 (eCall (R 1012) (aCons (eV 3) (aCons (eV 5) aNil)))) (sSeq (sIf (tNotD (tTru (eCall (R 1004) (aCons (eCall (R 1014) (aCons (eV 2) (aCons (eV 5) aNil))) (aCons (eV 6) aNil))))) (sRet (eC (.bl false))) sNext) (sSeq (sSet 7 (eMeth 22 "messages" (R 153) (eV 2) aNil)) (sSeq (sIf (tOrD (tNotD (tTru (eUn (dIsi "dict") (eV 7)))) (tNotD (tTru (eCall (R 1004) (aCons (eUn dSorted (eUn dListA (eV 7))) (aCons (eUn dSorted (eUn dListA (eOp dIdx (eV 3) (eUn dNeg (eC (.int 1)))))) aNil)))))) (sRet (eC (.bl false))) sNext) (sSeq (sForKL 3 (.nm 8) [8] (L_1015_1 R)) (sSeq (sPutP (eV 7) (eC (.str "spoilt")) (eLst aNil)) (sPop2P (eV 7) (eC (.str "a")) (eC .non))))))))) Γ S := rfl
def B_1015 (R : Rec) : List D → List D → Res D := bodyRun 9 (sSeq (sSet 1 (eCall (R 1002) (aCons (eV 0) (aCons (eC (.int 0)) (aCons (eC (.int 60)) aNil))))) (sSeq (sSet 2 (eMake 22 (R 152) aNil)) (sSeq (sSet 3 (eBox (eLst (aCons eDct0 aNil)))) (sSeq (sFor (iR1 (eC (.int 25))) (.nm 4) [4, 5, 6, 7, 8] (L_1015_2 R)) (sRet (eC (.bl true)))))))  -- law
def tab (R : Rec) : Rec := fun i => match i with
  | 1 => B_1 R
  | 2 => B_2 R
  | 4 => B_4 R
  | 5 => B_5 R
  | 148 => B_148 R
  | 149 => B_149 R
  | 150 => B_150 R
  | 151 => B_151 R
  | 152 => B_152 R
  | 153 => B_153 R
  | 154 => B_154 R
  | 155 => B_155 R
  | 156 => B_156 R
  | 157 => B_157 R
  | 1000 => B_1000 R
  | 1001 => B_1001 R
  | 1002 => B_1002 R
  | 1003 => B_1003 R
  | 1004 => B_1004 R
  | 1005 => B_1005 R
  | 1006 => B_1006 R
  | 1007 => B_1007 R
  | 1008 => B_1008 R
  | 1009 => B_1009 R
  | 1010 => B_1010 R
  | 1011 => B_1011 R
  | 1012 => B_1012 R
  | 1013 => B_1013 R
  | 1014 => B_1014 R
  | 1015 => B_1015 R
  | _ => fun _ _ => .stuck
def run : Nat → Rec
  | 0 => fun _ _ _ => .stuck
  | n + 1 => tab (run n)
theorem run_1 (n : Nat) : run (n + 1) 1 = B_1 (run n) := rfl
theorem run_2 (n : Nat) : run (n + 1) 2 = B_2 (run n) := rfl
theorem run_4 (n : Nat) : run (n + 1) 4 = B_4 (run n) := rfl
theorem run_5 (n : Nat) : run (n + 1) 5 = B_5 (run n) := rfl
theorem run_148 (n : Nat) : run (n + 1) 148 = B_148 (run n) := rfl
theorem run_149 (n : Nat) : run (n + 1) 149 = B_149 (run n) := rfl
theorem run_150 (n : Nat) : run (n + 1) 150 = B_150 (run n) := rfl
theorem run_151 (n : Nat) : run (n + 1) 151 = B_151 (run n) := rfl
theorem run_152 (n : Nat) : run (n + 1) 152 = B_152 (run n) := rfl
theorem run_153 (n : Nat) : run (n + 1) 153 = B_153 (run n) := rfl
theorem run_154 (n : Nat) : run (n + 1) 154 = B_154 (run n) := rfl
theorem run_155 (n : Nat) : run (n + 1) 155 = B_155 (run n) := rfl
theorem run_156 (n : Nat) : run (n + 1) 156 = B_156 (run n) := rfl
theorem run_157 (n : Nat) : run (n + 1) 157 = B_157 (run n) := rfl
theorem run_1000 (n : Nat) : run (n + 1) 1000 = B_1000 (run n) := rfl
theorem run_1001 (n : Nat) : run (n + 1) 1001 = B_1001 (run n) := rfl
theorem run_1002 (n : Nat) : run (n + 1) 1002 = B_1002 (run n) := rfl
theorem run_1003 (n : Nat) : run (n + 1) 1003 = B_1003 (run n) := rfl
theorem run_1004 (n : Nat) : run (n + 1) 1004 = B_1004 (run n) := rfl
theorem run_1005 (n : Nat) : run (n + 1) 1005 = B_1005 (run n) := rfl
theorem run_1006 (n : Nat) : run (n + 1) 1006 = B_1006 (run n) := rfl
theorem run_1007 (n : Nat) : run (n + 1) 1007 = B_1007 (run n) := rfl
theorem run_1008 (n : Nat) : run (n + 1) 1008 = B_1008 (run n) := rfl
theorem run_1009 (n : Nat) : run (n + 1) 1009 = B_1009 (run n) := rfl
theorem run_1010 (n : Nat) : run (n + 1) 1010 = B_1010 (run n) := rfl
theorem run_1011 (n : Nat) : run (n + 1) 1011 = B_1011 (run n) := rfl
theorem run_1012 (n : Nat) : run (n + 1) 1012 = B_1012 (run n) := rfl
theorem run_1013 (n : Nat) : run (n + 1) 1013 = B_1013 (run n) := rfl
theorem run_1014 (n : Nat) : run (n + 1) 1014 = B_1014 (run n) := rfl
theorem run_1015 (n : Nat) : run (n + 1) 1015 = B_1015 (run n) := rfl
/-! the top -/
structure Top (P : Program) (K : PySem.W.Frag) (mg : Str → Option Value) (cls : Nat → Addr) (A : Nat → Addr) (FD : Nat → FuncData) : Prop where
  m_NoSuchPlace : mg "NoSuchPlace" = some (.ref (cls (7 + 3)))
  m_NoSuchKey : mg "NoSuchKey" = some (.ref (cls (8 + 3)))
  m_Book : mg "Book" = some (.ref (cls (22 + 3)))
  cb_Book : Cls K (cls (22 + 3))
  mk_Book : Mk K (cls (22 + 3)) (A 152)
  na_Book_past : NoAttr K (cls (22 + 3)) "past"
  e_NoSuchPlace : ErrTxt P K "NoSuchPlace.__init__" (clsSt (topS 2) 0) (cls (7 + 3)) (cls (7 + 3)) (A 2007) (A 3007) (A 4007) "path" "path"
  x_NoSuchPlace : ExcC K (cls (7 + 3))
  n_NoSuchPlace : PySem.W.findIn K (.ref (cls (7 + 3))) "path" = some none
  e_NoSuchKey : ErrTxt P K "NoSuchKey.__init__" (clsSt (topS 3) 0) (cls (8 + 3)) (cls (8 + 3)) (A 2008) (A 3008) (A 4008) "key" "key"
  x_NoSuchKey : ExcC K (cls (8 + 3))
  n_NoSuchKey : PySem.W.findIn K (.ref (cls (8 + 3))) "key" = some none
  t_NoSuchKey_NoSuchPlace : PySem.W.exmOne K (.ref (cls (7 + 3))) (.ref (cls (8 + 3))) = some false
  k_NoSuchKey_NoSuchPlace : PySem.W.kitOne K (.ref (cls (7 + 3))) (.ref (cls (8 + 3))) = some false
  t_NoSuchKey_NoSuchKey : PySem.W.exmOne K (.ref (cls (8 + 3))) (.ref (cls (8 + 3))) = some true
  k_NoSuchKey_NoSuchKey : PySem.W.kitOne K (.ref (cls (8 + 3))) (.ref (cls (8 + 3))) = some true
  t_NoSuchPlace_NoSuchPlace : PySem.W.exmOne K (.ref (cls (7 + 3))) (.ref (cls (7 + 3))) = some true
  k_NoSuchPlace_NoSuchPlace : PySem.W.kitOne K (.ref (cls (7 + 3))) (.ref (cls (7 + 3))) = some true
  t_NoSuchPlace_NoSuchKey : PySem.W.exmOne K (.ref (cls (8 + 3))) (.ref (cls (7 + 3))) = some false
  k_NoSuchPlace_NoSuchKey : PySem.W.kitOne K (.ref (cls (8 + 3))) (.ref (cls (7 + 3))) = some false
  b_dict : mg "dict" = none
  b_int : mg "int" = none
  b_isinstance : mg "isinstance" = none
  b_len : mg "len" = none
  b_list : mg "list" = none
  b_range : mg "range" = none
  b_repr : mg "repr" = none
  b_sorted : mg "sorted" = none
  b_super : mg "super" = none
  c_TEXT : ∃ t : Tok, mg "TEXT" = some (.str "text" t)
  c_SELECT : ∃ t : Tok, mg "SELECT" = some (.str "select" t)
  c_PLURAL : ∃ t : Tok, mg "PLURAL" = some (.str "plural" t)
  c_OTHER : ∃ t : Tok, mg "OTHER" = some (.str "other" t)
  c_CHOICES : ∃ a us dd n sl, mg "CHOICES" = some (.ref a) ∧ K.lookup a = some ⟨.type "tuple", dd, .seq us.toArray n, sl⟩ ∧ StrsV ["select", "plural"] us ∧ us.length ≤ sizeLine
  f_1 : Fun K "cases_of" "cases_of" s_1 (A 1) (FD 1)
  g_1 : mg "cases_of" = some (.ref (A 1))
  n_1 : Binds K (FD 1) ["node"] []
  f_2 : Fun K "other_of" "other_of" s_2 (A 2) (FD 2)
  g_2 : mg "other_of" = some (.ref (A 2))
  n_2 : Binds K (FD 2) ["node"] []
  f_4 : Fun K "plain_node" "plain_node" s_4 (A 4) (FD 4)
  g_4 : mg "plain_node" = some (.ref (A 4))
  n_4 : Binds K (FD 4) ["node"] []
  f_5 : Fun K "plain" "plain" s_5 (A 5) (FD 5)
  g_5 : mg "plain" = some (.ref (A 5))
  n_5 : Binds K (FD 5) ["message"] []
  f_148 : Fun K "case_at" "case_at" s_148 (A 148) (FD 148)
  g_148 : mg "case_at" = some (.ref (A 148))
  n_148 : Binds K (FD 148) ["message", "place", "key"] []
  f_149 : Fun K "message_at" "message_at" s_149 (A 149) (FD 149)
  g_149 : mg "message_at" = some (.ref (A 149))
  n_149 : Binds K (FD 149) ["message", "path"] []
  f_150 : Fun K "with_case" "with_case" s_150 (A 150) (FD 150)
  g_150 : mg "with_case" = some (.ref (A 150))
  n_150 : Binds K (FD 150) ["node", "key", "message"] []
  f_151 : Fun K "replaced" "replaced" s_151 (A 151) (FD 151)
  g_151 : mg "replaced" = some (.ref (A 151))
  n_151 : Binds K (FD 151) ["message", "path", "inner"] []
  f_152 : Fun K "__init__" "Book.__init__" s_152 (A 152) (FD 152)
  n_152 : Binds K (FD 152) ["self"] []
  f_153 : Fun K "messages" "Book.messages" s_153 (A 153) (FD 153)
  g_153 : Meth K (cls (22 + 3)) "messages" (A 153)
  n_153 : Binds K (FD 153) ["self"] []
  f_154 : Fun K "put" "Book.put" s_154 (A 154) (FD 154)
  g_154 : Meth K (cls (22 + 3)) "put" (A 154)
  n_154 : Binds K (FD 154) ["self", "key", "message"] []
  f_155 : Fun K "drop" "Book.drop" s_155 (A 155) (FD 155)
  g_155 : Meth K (cls (22 + 3)) "drop" (A 155)
  n_155 : Binds K (FD 155) ["self", "key"] []
  f_156 : Fun K "change" "Book.change" s_156 (A 156) (FD 156)
  g_156 : Meth K (cls (22 + 3)) "change" (A 156)
  n_156 : Binds K (FD 156) ["self", "key", "path", "inner"] []
  f_157 : Fun K "undo" "Book.undo" s_157 (A 157) (FD 157)
  g_157 : Meth K (cls (22 + 3)) "undo" (A 157)
  n_157 : Binds K (FD 157) ["self"] []
  f_1000 : Fun K "_law_cell" "_law_cell" s_1000 (A 1000) (FD 1000)
  g_1000 : mg "_law_cell" = some (.ref (A 1000))
  n_1000 : Binds K (FD 1000) ["_law_script", "_law_k"] []
  f_1001 : Fun K "_law_row" "_law_row" s_1001 (A 1001) (FD 1001)
  g_1001 : mg "_law_row" = some (.ref (A 1001))
  n_1001 : Binds K (FD 1001) ["_law_cell_here", "_law_k", "_law_many"] []
  f_1002 : Fun K "_law_box" "_law_box" s_1002 (A 1002) (FD 1002)
  g_1002 : mg "_law_box" = some (.ref (A 1002))
  n_1002 : Binds K (FD 1002) ["_law_script", "_law_first", "_law_last"] []
  f_1003 : Fun K "_law_draw" "_law_draw" s_1003 (A 1003) (FD 1003)
  g_1003 : mg "_law_draw" = some (.ref (A 1003))
  n_1003 : Binds K (FD 1003) ["_law_box_here", "_law_many"] []
  f_1004 : Fun K "_law_same" "_law_same" s_1004 (A 1004) (FD 1004)
  g_1004 : mg "_law_same" = some (.ref (A 1004))
  n_1004 : Binds K (FD 1004) ["_law_one", "_law_other"] []
  f_1005 : Fun K "_law_message" "_law_message" s_1005 (A 1005) (FD 1005)
  g_1005 : mg "_law_message" = some (.ref (A 1005))
  n_1005 : Binds K (FD 1005) ["_law_box_here", "_law_depth", "_law_inside", "_law_numbers"] []
  f_1006 : Fun K "_law_paths" "_law_paths" s_1006 (A 1006) (FD 1006)
  g_1006 : mg "_law_paths" = some (.ref (A 1006))
  n_1006 : Binds K (FD 1006) ["_law_message_here"] []
  f_1007 : Fun K "_law_at" "_law_at" s_1007 (A 1007) (FD 1007)
  g_1007 : mg "_law_at" = some (.ref (A 1007))
  n_1007 : Binds K (FD 1007) ["_law_message_here", "_law_path_here"] []
  f_1008 : Fun K "_law_put" "_law_put" s_1008 (A 1008) (FD 1008)
  g_1008 : mg "_law_put" = some (.ref (A 1008))
  n_1008 : Binds K (FD 1008) ["_law_message_here", "_law_path_here", "_law_inner"] []
  f_1009 : Fun K "_law_path" "_law_path" s_1009 (A 1009) (FD 1009)
  g_1009 : mg "_law_path" = some (.ref (A 1009))
  n_1009 : Binds K (FD 1009) ["_law_box_here", "_law_message_here"] []
  f_1010 : Fun K "_law_plain" "_law_plain" s_1010 (A 1010) (FD 1010)
  g_1010 : mg "_law_plain" = some (.ref (A 1010))
  n_1010 : Binds K (FD 1010) ["_law_message_here"] []
  f_1011 : Fun K "_law_deed" "_law_deed" s_1011 (A 1011) (FD 1011)
  g_1011 : mg "_law_deed" = some (.ref (A 1011))
  n_1011 : Binds K (FD 1011) ["_law_box_here", "_law_now"] []
  f_1012 : Fun K "_law_done" "_law_done" s_1012 (A 1012) (FD 1012)
  g_1012 : mg "_law_done" = some (.ref (A 1012))
  n_1012 : Binds K (FD 1012) ["_law_states", "_law_deed_here"] []
  f_1013 : Fun K "_law_call" "_law_call" s_1013 (A 1013) (FD 1013)
  g_1013 : mg "_law_call" = some (.ref (A 1013))
  n_1013 : Binds K (FD 1013) ["_law_book", "_law_deed_here"] []
  f_1014 : Fun K "_law_told" "_law_told" s_1014 (A 1014) (FD 1014)
  g_1014 : mg "_law_told" = some (.ref (A 1014))
  n_1014 : Binds K (FD 1014) ["_law_book", "_law_deed_here"] []
  f_1015 : Fun K "law" "law" s_1015 (A 1015) (FD 1015)
  g_1015 : mg "law" = some (.ref (A 1015))
  n_1015 : Binds K (FD 1015) ["_law_script"] []
theorem fx_NoSuchKey_ok {P : Program} {K : PySem.W.Frag} {mg : Str → Option Value} {cls : Nat → Addr} {A : Nat → Addr} {FD : Nat → FuncData} (T : Top P K mg cls A FD) : ∀ c b, fx_NoSuchKey c = some b → PySem.W.exmOne K (.ref (cls (c + 3))) (.ref (cls 11)) = some b := by
  intro c b h
  unfold fx_NoSuchKey at h
  repeat' split at h
  all_goals first
    | (cases h; done)
    | (rename_i z; subst z; cases h; exact T.t_NoSuchKey_NoSuchPlace)
    | (rename_i z _; subst z; cases h; exact T.t_NoSuchKey_NoSuchPlace)
    | (rename_i z; subst z; cases h; exact T.t_NoSuchKey_NoSuchKey)
    | (rename_i z _; subst z; cases h; exact T.t_NoSuchKey_NoSuchKey)
    | (cases h; subst_vars; first | exact T.t_NoSuchKey_NoSuchPlace | exact T.t_NoSuchKey_NoSuchKey)
theorem ix_NoSuchKey_ok {P : Program} {K : PySem.W.Frag} {mg : Str → Option Value} {cls : Nat → Addr} {A : Nat → Addr} {FD : Nat → FuncData} (T : Top P K mg cls A FD) : ∀ c b, fx_NoSuchKey c = some b → ExcC K (cls (c + 3)) ∧ PySem.W.kitOne K (.ref (cls (c + 3))) (.ref (cls 11)) = some b := by
  intro c b h
  unfold fx_NoSuchKey at h
  repeat' split at h
  all_goals first
    | (cases h; done)
    | (cases h; subst_vars; first | exact ⟨T.x_NoSuchPlace, T.k_NoSuchKey_NoSuchPlace⟩ | exact ⟨T.x_NoSuchKey, T.k_NoSuchKey_NoSuchKey⟩)
theorem fx_NoSuchPlace_ok {P : Program} {K : PySem.W.Frag} {mg : Str → Option Value} {cls : Nat → Addr} {A : Nat → Addr} {FD : Nat → FuncData} (T : Top P K mg cls A FD) : ∀ c b, fx_NoSuchPlace c = some b → PySem.W.exmOne K (.ref (cls (c + 3))) (.ref (cls 10)) = some b := by
  intro c b h
  unfold fx_NoSuchPlace at h
  repeat' split at h
  all_goals first
    | (cases h; done)
    | (rename_i z; subst z; cases h; exact T.t_NoSuchPlace_NoSuchPlace)
    | (rename_i z _; subst z; cases h; exact T.t_NoSuchPlace_NoSuchPlace)
    | (rename_i z; subst z; cases h; exact T.t_NoSuchPlace_NoSuchKey)
    | (rename_i z _; subst z; cases h; exact T.t_NoSuchPlace_NoSuchKey)
    | (cases h; subst_vars; first | exact T.t_NoSuchPlace_NoSuchPlace | exact T.t_NoSuchPlace_NoSuchKey)
theorem ix_NoSuchPlace_ok {P : Program} {K : PySem.W.Frag} {mg : Str → Option Value} {cls : Nat → Addr} {A : Nat → Addr} {FD : Nat → FuncData} (T : Top P K mg cls A FD) : ∀ c b, fx_NoSuchPlace c = some b → ExcC K (cls (c + 3)) ∧ PySem.W.kitOne K (.ref (cls (c + 3))) (.ref (cls 10)) = some b := by
  intro c b h
  unfold fx_NoSuchPlace at h
  repeat' split at h
  all_goals first
    | (cases h; done)
    | (cases h; subst_vars; first | exact ⟨T.x_NoSuchPlace, T.k_NoSuchPlace_NoSuchPlace⟩ | exact ⟨T.x_NoSuchKey, T.k_NoSuchPlace_NoSuchKey⟩)
theorem ga_past_ok {P : Program} {K : PySem.W.Frag} {mg : Str → Option Value} {cls : Nat → Addr} {A : Nat → Addr} {FD : Nat → FuncData} (T : Top P K mg cls A FD) : ∀ c, ga_past c = true → Cls K (cls (c + 3)) ∧ NoAttr K (cls (c + 3)) "past" := by
  intro c h
  unfold ga_past at h
  simp only [Bool.or_eq_true, decide_eq_true_eq] at h
  have k : c = 22 := by omega
  rcases k with rfl
  · exact ⟨T.cb_Book, T.na_Book_past⟩
theorem gx_key_ok {P : Program} {K : PySem.W.Frag} {mg : Str → Option Value} {cls : Nat → Addr} {A : Nat → Addr} {FD : Nat → FuncData} (T : Top P K mg cls A FD) : ∀ c, gx_key c = true → XfC K (cls (c + 3)) ∧ PySem.W.findIn K (.ref (cls (c + 3))) "key" = some none := by
  intro c h
  unfold gx_key at h
  simp only [Bool.or_eq_true, decide_eq_true_eq] at h
  have k : c = 8 := by omega
  rcases k with rfl
  · exact ⟨⟨T.x_NoSuchKey.hg, T.x_NoSuchKey.hk, T.x_NoSuchKey.hs, T.x_NoSuchKey.hd⟩, T.n_NoSuchKey⟩
theorem gx_path_ok {P : Program} {K : PySem.W.Frag} {mg : Str → Option Value} {cls : Nat → Addr} {A : Nat → Addr} {FD : Nat → FuncData} (T : Top P K mg cls A FD) : ∀ c, gx_path c = true → XfC K (cls (c + 3)) ∧ PySem.W.findIn K (.ref (cls (c + 3))) "path" = some none := by
  intro c h
  unfold gx_path at h
  simp only [Bool.or_eq_true, decide_eq_true_eq] at h
  have k : c = 7 := by omega
  rcases k with rfl
  · exact ⟨⟨T.x_NoSuchPlace.hg, T.x_NoSuchPlace.hk, T.x_NoSuchPlace.hs, T.x_NoSuchPlace.hd⟩, T.n_NoSuchPlace⟩
structure All (P : Program) (w : World) (K : PySem.W.Frag) (mg : Str → Option Value) (base : Heap) (cls : Nat → Addr) (A : Nat → Addr) (FD : Nat → FuncData) (n : Nat) (R : Rec) : Prop where
  k_1 : FnG P w K mg base (2 * n) (A 1) (FD 1) ["node"] (spD ⟨K, cls⟩ 1 (R 1))
  k_2 : FnG P w K mg base (2 * n) (A 2) (FD 2) ["node"] (spD ⟨K, cls⟩ 1 (R 2))
  k_4 : FnG P w K mg base (2 * n) (A 4) (FD 4) ["node"] (spD ⟨K, cls⟩ 1 (R 4))
  k_5 : FnG P w K mg base (2 * n) (A 5) (FD 5) ["message"] (spD ⟨K, cls⟩ 1 (R 5))
  k_148 : FnG P w K mg base (2 * n) (A 148) (FD 148) ["message", "place", "key"] (spD ⟨K, cls⟩ 3 (R 148))
  k_149 : FnG P w K mg base (2 * n) (A 149) (FD 149) ["message", "path"] (spD ⟨K, cls⟩ 2 (R 149))
  k_150 : FnG P w K mg base (2 * n) (A 150) (FD 150) ["node", "key", "message"] (spD ⟨K, cls⟩ 3 (R 150))
  k_151 : FnG P w K mg base (2 * n) (A 151) (FD 151) ["message", "path", "inner"] (spD ⟨K, cls⟩ 3 (R 151))
  k_152 : FnG P w K mg base (2 * n) (A 152) (FD 152) ["self"] (spD ⟨K, cls⟩ 1 (R 152))
  k_153 : FnG P w K mg base (2 * n) (A 153) (FD 153) ["self"] (spD ⟨K, cls⟩ 1 (R 153))
  k_154 : FnG P w K mg base (2 * n) (A 154) (FD 154) ["self", "key", "message"] (spD ⟨K, cls⟩ 3 (R 154))
  k_155 : FnG P w K mg base (2 * n) (A 155) (FD 155) ["self", "key"] (spD ⟨K, cls⟩ 2 (R 155))
  k_156 : FnG P w K mg base (2 * n) (A 156) (FD 156) ["self", "key", "path", "inner"] (spD ⟨K, cls⟩ 4 (R 156))
  k_157 : FnG P w K mg base (2 * n) (A 157) (FD 157) ["self"] (spD ⟨K, cls⟩ 1 (R 157))
  k_1000 : FnG P w K mg base (2 * n) (A 1000) (FD 1000) ["_law_script", "_law_k"] (spD ⟨K, cls⟩ 2 (R 1000))
  k_1001 : FnG P w K mg base (2 * n) (A 1001) (FD 1001) ["_law_cell_here", "_law_k", "_law_many"] (spD ⟨K, cls⟩ 3 (R 1001))
  k_1002 : FnG P w K mg base (2 * n) (A 1002) (FD 1002) ["_law_script", "_law_first", "_law_last"] (spD ⟨K, cls⟩ 3 (R 1002))
  k_1003 : FnG P w K mg base (2 * n) (A 1003) (FD 1003) ["_law_box_here", "_law_many"] (spD ⟨K, cls⟩ 2 (R 1003))
  k_1004 : FnG P w K mg base (2 * n) (A 1004) (FD 1004) ["_law_one", "_law_other"] (spD ⟨K, cls⟩ 2 (R 1004))
  k_1005 : FnG P w K mg base (2 * n) (A 1005) (FD 1005) ["_law_box_here", "_law_depth", "_law_inside", "_law_numbers"] (spD ⟨K, cls⟩ 4 (R 1005))
  k_1006 : FnG P w K mg base (2 * n) (A 1006) (FD 1006) ["_law_message_here"] (spD ⟨K, cls⟩ 1 (R 1006))
  k_1007 : FnG P w K mg base (2 * n) (A 1007) (FD 1007) ["_law_message_here", "_law_path_here"] (spD ⟨K, cls⟩ 2 (R 1007))
  k_1008 : FnG P w K mg base (2 * n) (A 1008) (FD 1008) ["_law_message_here", "_law_path_here", "_law_inner"] (spD ⟨K, cls⟩ 3 (R 1008))
  k_1009 : FnG P w K mg base (2 * n) (A 1009) (FD 1009) ["_law_box_here", "_law_message_here"] (spD ⟨K, cls⟩ 2 (R 1009))
  k_1010 : FnG P w K mg base (2 * n) (A 1010) (FD 1010) ["_law_message_here"] (spD ⟨K, cls⟩ 1 (R 1010))
  k_1011 : FnG P w K mg base (2 * n) (A 1011) (FD 1011) ["_law_box_here", "_law_now"] (spD ⟨K, cls⟩ 2 (R 1011))
  k_1012 : FnG P w K mg base (2 * n) (A 1012) (FD 1012) ["_law_states", "_law_deed_here"] (spD ⟨K, cls⟩ 2 (R 1012))
  k_1013 : FnG P w K mg base (2 * n) (A 1013) (FD 1013) ["_law_book", "_law_deed_here"] (spD ⟨K, cls⟩ 2 (R 1013))
  k_1014 : FnG P w K mg base (2 * n) (A 1014) (FD 1014) ["_law_book", "_law_deed_here"] (spD ⟨K, cls⟩ 2 (R 1014))
  k_1015 : FnG P w K mg base (2 * n) (A 1015) (FD 1015) ["_law_script"] (spD ⟨K, cls⟩ 1 (R 1015))
section
variable {P : Program} {w : World} {K : PySem.W.Frag} {mg : Str → Option Value} {base : Heap} {cls : Nat → Addr} {A : Nat → Addr} {FD : Nat → FuncData} {n : Nat} {R : Rec}
/-- cases_of -/
theorem W_1 (T : Top P K mg cls A FD) (a : All P w K mg base cls A FD n R) : FnG P w K mg base (2 * n + 1 + 1) (A 1) (FD 1) ["node"] (spD ⟨K, cls⟩ 1 (B_1 R)) :=
  defG_ok T.f_1 sc_1 fun cdv A' outer s H E hr => by
    have tk := takes_of (X := cxOf (L2.CX P w) P w K mg base N_1 "cases_of" (defScope s_1) (A 1) cdv A' outer s H E) rfl rfl rfl rfl
    have hr1 := hr
    have hr := hr1.less (show 2 * n ≤ 2 * n + 1 by omega)
    exact (dss_one (ds_ret (de_sub_ (de_o (de_v 0)) (de_o (de_neg (de_o de_int))))))
/-- other_of -/
theorem W_2 (T : Top P K mg cls A FD) (a : All P w K mg base cls A FD n R) : FnG P w K mg base (2 * n + 1 + 1) (A 2) (FD 2) ["node"] (spD ⟨K, cls⟩ 1 (B_2 R)) :=
  defG_ok T.f_2 sc_2 fun cdv A' outer s H E hr => by
    have tk := takes_of (X := cxOf (L2.CX P w) P w K mg base N_2 "other_of" (defScope s_2) (A 2) cdv A' outer s H E) rfl rfl rfl rfl
    have hr1 := hr
    have hr := hr1.less (show 2 * n ≤ 2 * n + 1 by omega)
    exact (dss_one (ds_ret (de_sub_ (de_o (de_v 0)) (de_o (de_neg (de_o de_int))))))
/-- plain_node -/
theorem W_4 (T : Top P K mg cls A FD) (a : All P w K mg base cls A FD n R) : FnG P w K mg base (2 * n + 1 + 1) (A 4) (FD 4) ["node"] (spD ⟨K, cls⟩ 1 (B_4 R)) :=
  defG_ok T.f_4 sc_4 fun cdv A' outer s H E hr => by
    have tk := takes_of (X := cxOf (L2.CX P w) P w K mg base N_4 "plain_node" (defScope s_4) (A 4) cdv A' outer s H E) rfl rfl rfl rfl
    have hr1 := hr
    have hr := hr1.less (show 2 * n ≤ 2 * n + 1 by omega)
    exact (dss_cons (ds_if (dt_notIn (de_o (de_sub_ (de_o (de_v 0)) (de_o de_int))) (de_o (de_gtup (zs := ["select", "plural"]) T.c_CHOICES)) rfl) (dss_one (ds_ret (de_v 0))) dss_nil) (dss_cons (ds_setC (ps_comp (i := 1) (own := [("key", 2), ("message", 3)]) (p := (.tp [(.nm 2), (.nm 3)])) (ι := (iA (eCall (R 1) (aCons (eV 0) aNil)))) (τ := tTrue) (ε := C_4_1 R) rfl sc_4.nd rfl rfl (sw_true rfl rfl rfl (by decide +kernel)) (di_a (de_callG a.k_1 tk hr rfl T.g_1 T.f_1.kp T.n_1 (da_cons (de_v 0) da_nil) (ALen.cons ALen.nil))) (blkOk_by (N := N_4) (sc := defScope s_4) (own := [("key", 2), ("message", 3)]) (by decide +kernel)) (by decide) (fun _ _ _ _ _ => (pg_tup rfl (pgs_cons (pg_name (i := 2) sc_4.nd rfl (by first | exact Or.inl rfl | exact Or.inr rfl)) (pgs_cons (pg_name (i := 3) sc_4.nd rfl (by first | exact Or.inl rfl | exact Or.inr rfl)) pgs_nil)))) (fun _ _ _ _ _ => dts_nil) (fun _ _ _ _ _ => (de_tup (da_cons (de_v 2) (da_cons (de_callG a.k_5 takes0 hr rfl T.g_5 T.f_5.kp T.n_5 (da_cons (de_v 3) da_nil) (ALen.cons ALen.nil)) da_nil)) ((ALen.cons (ALen.cons ALen.nil)).line (by decide)))))) (dss_one (ds_ret (de_add (de_o (de_cut (de_o (de_v 0)) dp_no (dp_so (de_neg (de_o de_int))))) (de_o (de_tup (da_cons (de_v 1) (da_cons (de_callG a.k_5 tk hr rfl T.g_5 T.f_5.kp T.n_5 (da_cons (de_callG a.k_2 tk hr rfl T.g_2 T.f_2.kp T.n_2 (da_cons (de_v 0) da_nil) (ALen.cons ALen.nil)) da_nil) (ALen.cons ALen.nil)) da_nil)) ((ALen.cons (ALen.cons ALen.nil)).line (by decide)))))))))
/-- plain -/
theorem W_5 (T : Top P K mg cls A FD) (a : All P w K mg base cls A FD n R) : FnG P w K mg base (2 * n + 1 + 1) (A 5) (FD 5) ["message"] (spD ⟨K, cls⟩ 1 (B_5 R)) :=
  defG_ok T.f_5 sc_5 fun cdv A' outer s H E hr => by
    have tk := takes_of (X := cxOf (L2.CX P w) P w K mg base N_5 "plain" (defScope s_5) (A 5) cdv A' outer s H E) rfl rfl rfl rfl
    have hr1 := hr
    have hr := hr1.less (show 2 * n ≤ 2 * n + 1 by omega)
    exact (dss_cons (ds_own (i := 1) sc_5.nd rfl (by first | exact Or.inl rfl | exact Or.inr rfl) (df_lst da_nil ((ALen.nil).line (by decide)))) (dss_cons (ds_for (passes_of rfl) rfl (di_a (de_v 0)) (pg_name (i := 2) sc_5.nd rfl (by first | exact Or.inl rfl | exact Or.inr rfl)) (dss_one (ds_if (dw_t (dw_and (dt_eq hr.units (de_o (de_sub_ (de_o (de_v 2)) (de_o de_int))) (de_o (de_gstr T.c_TEXT))) (dw_and (dt_tru (do_v 1)) (dw_and1 (dt_eq hr.units (de_o (de_sub_ (de_o (de_sub_ (do_v 1) (de_o (de_neg (de_o de_int))))) (de_o de_int))) (de_o (de_gstr T.c_TEXT))))))) (dss_one (ds_setO 1 (pg_sub (pv 1) (de_neg (de_o de_int)) set_list) (de_tup (da_cons (de_gstr T.c_TEXT) (da_cons (de_add (de_o (de_sub_ (de_o (de_sub_ (do_v 1) (de_o (de_neg (de_o de_int))))) (de_o de_int))) (de_o (de_sub_ (de_o (de_v 2)) (de_o de_int)))) da_nil)) ((ALen.cons (ALen.cons ALen.nil)).line (by decide))))) (dss_one (ds_if (dt_ne hr.units (de_o (de_v 2)) (de_o (de_tup (da_cons (de_gstr T.c_TEXT) (da_cons de_str da_nil)) ((ALen.cons (ALen.cons ALen.nil)).line (by decide))))) (dss_one (ds_appO 1 (pe_bm PySem.F.plainAttrs_list PySem.F.slot_list_append PySem.F.type_list_append mt_append (pv 1) (pa_cons (de_callG a.k_4 tk hr rfl T.g_4 T.f_4.kp T.n_4 (da_cons (de_v 2) da_nil) (ALen.cons ALen.nil)) pa_nil)))) dss_nil))))) (dss_one (ds_retO 1))))
/-- case_at -/
theorem W_148 (T : Top P K mg cls A FD) (a : All P w K mg base cls A FD n R) : FnG P w K mg base (2 * n + 1 + 1) (A 148) (FD 148) ["message", "place", "key"] (spD ⟨K, cls⟩ 3 (B_148 R)) :=
  defG_ok T.f_148 sc_148 fun cdv A' outer s H E hr => by
    have tk := takes_of (X := cxOf (L2.CX P w) P w K mg base N_148 "case_at" (defScope s_148) (A 148) cdv A' outer s H E) rfl rfl rfl rfl
    have hr1 := hr
    have hr := hr1.less (show 2 * n ≤ 2 * n + 1 by omega)
    exact (dss_cons (ds_if (dw_t (dw_or (dt_not (dt_chain2 (de_o de_int) (de_o (de_v 1)) (de_o (de_len rfl T.b_len (de_o (de_v 0)))))) (dw_or1 (dt_notIn (de_o (de_sub_ (de_o (de_sub_ (de_o (de_v 0)) (de_o (de_v 1)))) (de_o de_int))) (de_o (de_tup (da_cons (de_gstr T.c_SELECT) (da_cons (de_gstr T.c_PLURAL) da_nil)) ((ALen.cons (ALen.cons ALen.nil)).line (by decide)))) rfl)))) (dss_one (ds_ret de_non)) dss_nil) (dss_cons (ds_if (dt_eq hr.units (de_o (de_v 2)) (de_o (de_gstr T.c_OTHER))) (dss_one (ds_ret (de_callG a.k_2 tk hr rfl T.g_2 T.f_2.kp T.n_2 (da_cons (de_sub_ (de_o (de_v 0)) (de_o (de_v 1))) da_nil) (ALen.cons ALen.nil)))) dss_nil) (dss_one (ds_ret (de_dget1 hr.u1 (df_o (df_dict rfl T.b_dict rfl (de_o (de_callG a.k_1 tk hr rfl T.g_1 T.f_1.kp T.n_1 (da_cons (de_sub_ (de_o (de_v 0)) (de_o (de_v 1))) da_nil) (ALen.cons ALen.nil))))) (de_v 2) ⟨rfl, rfl, rfl, rfl⟩)))))
/-- message_at -/
theorem W_149 (T : Top P K mg cls A FD) (a : All P w K mg base cls A FD n R) : FnG P w K mg base (2 * n + 1 + 1) (A 149) (FD 149) ["message", "path"] (spD ⟨K, cls⟩ 2 (B_149 R)) :=
  defG_ok T.f_149 sc_149 fun cdv A' outer s H E hr => by
    have tk := takes_of (X := cxOf (L2.CX P w) P w K mg base N_149 "message_at" (defScope s_149) (A 149) cdv A' outer s H E) rfl rfl rfl rfl
    have hr1 := hr
    have hr := hr1.less (show 2 * n ≤ 2 * n + 1 by omega)
    exact (dss_cons (ds_set (i := 2) sc_149.nd rfl (by first | exact Or.inl rfl | exact Or.inr rfl) (de_v 0)) (dss_cons (ds_for (passes_of rfl) rfl (di_a (de_v 1)) (pg_tup rfl (pgs_cons (pg_name (i := 3) sc_149.nd rfl (by first | exact Or.inl rfl | exact Or.inr rfl)) (pgs_cons (pg_name (i := 4) sc_149.nd rfl (by first | exact Or.inl rfl | exact Or.inr rfl)) pgs_nil))) (dss_cons (ds_set (i := 2) sc_149.nd rfl (by first | exact Or.inl rfl | exact Or.inr rfl) (de_callG a.k_148 tk hr rfl T.g_148 T.f_148.kp T.n_148 (da_cons (de_v 2) (da_cons (de_v 3) (da_cons (de_v 4) da_nil))) (ALen.cons (ALen.cons (ALen.cons ALen.nil))))) (dss_one (ds_if (dt_isN (de_o (de_v 2)) (de_o de_non)) (dss_one (ds_raise (c := 7) rfl T.e_NoSuchPlace T.m_NoSuchPlace T.b_super hr tk rfl (de_v 1))) dss_nil)))) (dss_one (ds_ret (de_v 2)))))
/-- with_case -/
theorem W_150 (T : Top P K mg cls A FD) (a : All P w K mg base cls A FD n R) : FnG P w K mg base (2 * n + 1 + 1) (A 150) (FD 150) ["node", "key", "message"] (spD ⟨K, cls⟩ 3 (B_150 R)) :=
  defG_ok T.f_150 sc_150 fun cdv A' outer s H E hr => by
    have tk := takes_of (X := cxOf (L2.CX P w) P w K mg base N_150 "with_case" (defScope s_150) (A 150) cdv A' outer s H E) rfl rfl rfl rfl
    have hr1 := hr
    have hr := hr1.less (show 2 * n ≤ 2 * n + 1 by omega)
    exact (dss_cons (ds_if (dt_eq hr.units (de_o (de_v 1)) (de_o (de_gstr T.c_OTHER))) (dss_one (ds_ret (de_add (de_o (de_cut (de_o (de_v 0)) dp_no (dp_so (de_neg (de_o de_int))))) (de_o (de_tup (da_cons (de_v 2) da_nil) ((ALen.cons ALen.nil).line (by decide))))))) dss_nil) (dss_cons (ds_setC (ps_comp (i := 3) (own := [("other", 4), ("inner", 5)]) (p := (.tp [(.nm 4), (.nm 5)])) (ι := (iA (eCall (R 1) (aCons (eV 0) aNil)))) (τ := tTrue) (ε := C_150_1 R) rfl sc_150.nd rfl rfl (sw_true rfl rfl rfl (by decide +kernel)) (di_a (de_callG a.k_1 tk hr rfl T.g_1 T.f_1.kp T.n_1 (da_cons (de_v 0) da_nil) (ALen.cons ALen.nil))) (blkOk_by (N := N_150) (sc := defScope s_150) (own := [("other", 4), ("inner", 5)]) (by decide +kernel)) (by decide) (fun _ _ _ _ _ => (pg_tup rfl (pgs_cons (pg_name (i := 4) sc_150.nd rfl (by first | exact Or.inl rfl | exact Or.inr rfl)) (pgs_cons (pg_name (i := 5) sc_150.nd rfl (by first | exact Or.inl rfl | exact Or.inr rfl)) pgs_nil)))) (fun _ _ _ _ _ => dts_nil) (fun _ _ _ _ _ => (de_tup (da_cons (de_v 4) (da_cons (de_if (dt_eq hr.units (de_o (de_v 4)) (de_o (de_v 1))) (de_v 2) (de_v 5)) da_nil)) ((ALen.cons (ALen.cons ALen.nil)).line (by decide)))))) (dss_one (ds_ret (de_add (de_o (de_cut (de_o (de_v 0)) dp_no (dp_so (de_neg (de_o de_int))))) (de_o (de_tup (da_cons (de_v 3) (da_cons (de_callG a.k_2 tk hr rfl T.g_2 T.f_2.kp T.n_2 (da_cons (de_v 0) da_nil) (ALen.cons ALen.nil)) da_nil)) ((ALen.cons (ALen.cons ALen.nil)).line (by decide)))))))))
/-- replaced -/
theorem W_151 (T : Top P K mg cls A FD) (a : All P w K mg base cls A FD n R) : FnG P w K mg base (2 * n + 1 + 1) (A 151) (FD 151) ["message", "path", "inner"] (spD ⟨K, cls⟩ 3 (B_151 R)) :=
  defG_ok T.f_151 sc_151 fun cdv A' outer s H E hr => by
    have tk := takes_of (X := cxOf (L2.CX P w) P w K mg base N_151 "replaced" (defScope s_151) (A 151) cdv A' outer s H E) rfl rfl rfl rfl
    have hr1 := hr
    have hr := hr1.less (show 2 * n ≤ 2 * n + 1 by omega)
    exact (dss_cons (ds_expr (de_callG a.k_149 tk hr rfl T.g_149 T.f_149.kp T.n_149 (da_cons (de_v 0) (da_cons (de_v 1) da_nil)) (ALen.cons (ALen.cons ALen.nil)))) (dss_cons (ds_if (dt_not (dt_tru (de_o (de_v 1)))) (dss_one (ds_ret (df_e (df_list rfl T.b_list (de_o (de_v 2)))))) dss_nil) (dss_cons (ds_bind (de_sub_ (de_o (de_v 1)) (de_o de_int)) (pg_tup rfl (pgs_cons (pg_name (i := 3) sc_151.nd rfl (by first | exact Or.inl rfl | exact Or.inr rfl)) (pgs_cons (pg_name (i := 4) sc_151.nd rfl (by first | exact Or.inl rfl | exact Or.inr rfl)) pgs_nil)))) (dss_cons (ds_set (i := 5) sc_151.nd rfl (by first | exact Or.inl rfl | exact Or.inr rfl) (de_callG a.k_151 tk hr rfl T.g_151 T.f_151.kp T.n_151 (da_cons (de_callG a.k_148 tk hr rfl T.g_148 T.f_148.kp T.n_148 (da_cons (de_v 0) (da_cons (de_v 3) (da_cons (de_v 4) da_nil))) (ALen.cons (ALen.cons (ALen.cons ALen.nil)))) (da_cons (de_cut (de_o (de_v 1)) (dp_so de_int) dp_no) (da_cons (de_v 2) da_nil))) (ALen.cons (ALen.cons (ALen.cons ALen.nil))))) (dss_one (ds_ret (de_add (de_o (de_add (de_o (de_cut (de_o (de_v 0)) dp_no (dp_so (de_v 3)))) (df_o (df_lst (da_cons (de_callG a.k_150 tk hr rfl T.g_150 T.f_150.kp T.n_150 (da_cons (de_sub_ (de_o (de_v 0)) (de_o (de_v 3))) (da_cons (de_v 4) (da_cons (de_v 5) da_nil))) (ALen.cons (ALen.cons (ALen.cons ALen.nil)))) da_nil) ((ALen.cons ALen.nil).line (by decide)))))) (de_o (de_cut (de_o (de_v 0)) (dp_so (de_add (de_o (de_v 3)) (de_o de_int))) dp_no)))))))))
/-- Book.__init__ -/
theorem W_152 (T : Top P K mg cls A FD) (a : All P w K mg base cls A FD n R) : FnG P w K mg base (2 * n + 1 + 1) (A 152) (FD 152) ["self"] (spD ⟨K, cls⟩ 1 (B_152 R)) :=
  defG_ok T.f_152 sc_152 fun cdv A' outer s H E hr => by
    have tk := takes_of (X := cxOf (L2.CX P w) P w K mg base N_152 "Book.__init__" (defScope s_152) (A 152) cdv A' outer s H E) rfl rfl rfl rfl
    have hr1 := hr
    have hr := hr1.less (show 2 * n ≤ 2 * n + 1 by omega)
    exact (dss_one (ds_att (ga_past_ok T) (de_v 0) (de_box (df_lst (da_cons (df_e df_dct0) da_nil) ((ALen.cons ALen.nil).line (by decide))))))
/-- Book.messages -/
theorem W_153 (T : Top P K mg cls A FD) (a : All P w K mg base cls A FD n R) : FnG P w K mg base (2 * n + 1 + 1) (A 153) (FD 153) ["self"] (spD ⟨K, cls⟩ 1 (B_153 R)) :=
  defG_ok T.f_153 sc_153 fun cdv A' outer s H E hr => by
    have tk := takes_of (X := cxOf (L2.CX P w) P w K mg base N_153 "Book.messages" (defScope s_153) (A 153) cdv A' outer s H E) rfl rfl rfl rfl
    have hr1 := hr
    have hr := hr1.less (show 2 * n ≤ 2 * n + 1 by omega)
    exact (dss_one (ds_ret (de_box (df_dictA rfl T.b_dict rfl (de_o (de_sub_ (de_o (de_att (ga_past_ok T) (de_v 0))) (de_o (de_neg (de_o de_int)))))))))
/-- Book.put -/
theorem W_154 (T : Top P K mg cls A FD) (a : All P w K mg base cls A FD n R) : FnG P w K mg base (2 * n + 1 + 1) (A 154) (FD 154) ["self", "key", "message"] (spD ⟨K, cls⟩ 3 (B_154 R)) :=
  defG_ok T.f_154 sc_154 fun cdv A' outer s H E hr => by
    have tk := takes_of (X := cxOf (L2.CX P w) P w K mg base N_154 "Book.put" (defScope s_154) (A 154) cdv A' outer s H E) rfl rfl rfl rfl
    have hr1 := hr
    have hr := hr1.less (show 2 * n ≤ 2 * n + 1 by omega)
    exact (dss_cons (ds_set (i := 3) sc_154.nd rfl (by first | exact Or.inl rfl | exact Or.inr rfl) (de_meth0 (c := 22) T.cb_Book T.g_153 a.k_153 tk hr T.n_153 (de_v 0))) (dss_cons (ds_set (i := 4) sc_154.nd rfl (by first | exact Or.inl rfl | exact Or.inr rfl) (de_inA hr.u1 (de_o (de_v 1)) (de_o (de_v 3)) rfl)) (dss_cons (ds_putP hr.u1 (de_v 3) (de_v 1) (de_callG a.k_5 tk hr rfl T.g_5 T.f_5.kp T.n_5 (da_cons (de_v 2) da_nil) (ALen.cons ALen.nil))) (dss_cons (ds_appP (pe_bm PySem.F.plainAttrs_list PySem.F.slot_list_append PySem.F.type_list_append mt_append (de_att (ga_past_ok T) (de_v 0)) (pa_cons (de_v 3) pa_nil))) (dss_one (ds_ret (de_v 4)))))))
/-- Book.drop -/
theorem W_155 (T : Top P K mg cls A FD) (a : All P w K mg base cls A FD n R) : FnG P w K mg base (2 * n + 1 + 1) (A 155) (FD 155) ["self", "key"] (spD ⟨K, cls⟩ 2 (B_155 R)) :=
  defG_ok T.f_155 sc_155 fun cdv A' outer s H E hr => by
    have tk := takes_of (X := cxOf (L2.CX P w) P w K mg base N_155 "Book.drop" (defScope s_155) (A 155) cdv A' outer s H E) rfl rfl rfl rfl
    have hr1 := hr
    have hr := hr1.less (show 2 * n ≤ 2 * n + 1 by omega)
    exact (dss_cons (ds_set (i := 2) sc_155.nd rfl (by first | exact Or.inl rfl | exact Or.inr rfl) (de_meth0 (c := 22) T.cb_Book T.g_153 a.k_153 tk hr T.n_153 (de_v 0))) (dss_cons (ds_if (dt_notInA hr.u1 (de_o (de_v 1)) (de_o (de_v 2)) rfl) (dss_one (ds_raise (c := 8) rfl T.e_NoSuchKey T.m_NoSuchKey T.b_super hr tk rfl (de_v 1))) dss_nil) (dss_cons (ds_set (i := 3) sc_155.nd rfl (by first | exact Or.inl rfl | exact Or.inr rfl) (de_subA hr.u1 (de_o (de_v 2)) (de_o (de_v 1)) (de_sub_ (de_o (de_v 2)) (de_o (de_v 1))) (fun _ _ => rfl))) (dss_cons (ds_delP (de_v 2) (de_v 1)) (dss_cons (ds_appP (pe_bm PySem.F.plainAttrs_list PySem.F.slot_list_append PySem.F.type_list_append mt_append (de_att (ga_past_ok T) (de_v 0)) (pa_cons (de_v 2) pa_nil))) (dss_one (ds_ret (de_v 3))))))))
/-- Book.change -/
theorem W_156 (T : Top P K mg cls A FD) (a : All P w K mg base cls A FD n R) : FnG P w K mg base (2 * n + 1 + 1) (A 156) (FD 156) ["self", "key", "path", "inner"] (spD ⟨K, cls⟩ 4 (B_156 R)) :=
  defG_ok T.f_156 sc_156 fun cdv A' outer s H E hr => by
    have tk := takes_of (X := cxOf (L2.CX P w) P w K mg base N_156 "Book.change" (defScope s_156) (A 156) cdv A' outer s H E) rfl rfl rfl rfl
    have hr1 := hr
    have hr := hr1.less (show 2 * n ≤ 2 * n + 1 by omega)
    exact (dss_cons (ds_if (dt_notInA hr.u1 (de_o (de_v 1)) (de_o (de_sub_ (de_o (de_att (ga_past_ok T) (de_v 0))) (de_o (de_neg (de_o de_int))))) rfl) (dss_one (ds_raise (c := 8) rfl T.e_NoSuchKey T.m_NoSuchKey T.b_super hr tk rfl (de_v 1))) dss_nil) (dss_one (ds_ret (de_meth (c := 22) T.cb_Book T.g_154 a.k_154 tk hr T.n_154 (de_v 0) (da_cons (de_v 1) (da_cons (de_callG a.k_151 tk hr rfl T.g_151 T.f_151.kp T.n_151 (da_cons (de_subA hr.u1 (de_o (de_sub_ (de_o (de_att (ga_past_ok T) (de_v 0))) (de_o (de_neg (de_o de_int))))) (de_o (de_v 1)) (de_sub_ (de_o (de_sub_ (de_o (de_att (ga_past_ok T) (de_v 0))) (de_o (de_neg (de_o de_int))))) (de_o (de_v 1))) (fun _ _ => rfl)) (da_cons (de_v 2) (da_cons (de_v 3) da_nil))) (ALen.cons (ALen.cons (ALen.cons ALen.nil)))) da_nil)) (ALen.cons (ALen.cons ALen.nil))))))
/-- Book.undo -/
theorem W_157 (T : Top P K mg cls A FD) (a : All P w K mg base cls A FD n R) : FnG P w K mg base (2 * n + 1 + 1) (A 157) (FD 157) ["self"] (spD ⟨K, cls⟩ 1 (B_157 R)) :=
  defG_ok T.f_157 sc_157 fun cdv A' outer s H E hr => by
    have tk := takes_of (X := cxOf (L2.CX P w) P w K mg base N_157 "Book.undo" (defScope s_157) (A 157) cdv A' outer s H E) rfl rfl rfl rfl
    have hr1 := hr
    have hr := hr1.less (show 2 * n ≤ 2 * n + 1 by omega)
    exact (dss_cons (ds_if (dt_eq hr.units (de_o (de_len rfl T.b_len (de_o (de_att (ga_past_ok T) (de_v 0))))) (de_o de_int)) (dss_one (ds_ret de_bl)) dss_nil) (dss_cons (ds_popP (pe_bm0 PySem.F.plainAttrs_list PySem.F.slot_list_pop PySem.F.type_list_pop mt_pop (de_att (ga_past_ok T) (de_v 0)))) (dss_one (ds_ret de_bl))))
/-- _law_cell -/
theorem W_1000 (T : Top P K mg cls A FD) (a : All P w K mg base cls A FD n R) : FnG P w K mg base (2 * n + 1 + 1) (A 1000) (FD 1000) ["_law_script", "_law_k"] (spD ⟨K, cls⟩ 2 (B_1000 R)) :=
  defG_ok T.f_1000 sc_1000 fun cdv A' outer s H E hr => by
    have tk := takes_of (X := cxOf (L2.CX P w) P w K mg base N_1000 "_law_cell" (defScope s_1000) (A 1000) cdv A' outer s H E) rfl rfl rfl rfl
    have hr1 := hr
    have hr := hr1.less (show 2 * n ≤ 2 * n + 1 by omega)
    exact (dss_cons (ds_if (dt_lt (de_o (de_v 1)) (de_o (de_len rfl T.b_len (de_o (de_v 0))))) (dss_one (ds_ret (de_sub_ (de_o (de_v 0)) (de_o (de_v 1))))) dss_nil) (dss_one (ds_ret de_int)))
/-- _law_row -/
theorem W_1001 (T : Top P K mg cls A FD) (a : All P w K mg base cls A FD n R) : FnG P w K mg base (2 * n + 1 + 1) (A 1001) (FD 1001) ["_law_cell_here", "_law_k", "_law_many"] (spD ⟨K, cls⟩ 3 (B_1001 R)) :=
  defG_ok T.f_1001 sc_1001 fun cdv A' outer s H E hr => by
    have tk := takes_of (X := cxOf (L2.CX P w) P w K mg base N_1001 "_law_row" (defScope s_1001) (A 1001) cdv A' outer s H E) rfl rfl rfl rfl
    have hr1 := hr
    have hr := hr1.less (show 2 * n ≤ 2 * n + 1 by omega)
    exact (dss_cons (ds_own (i := 3) sc_1001.nd rfl (by first | exact Or.inl rfl | exact Or.inr rfl) (df_lst da_nil ((ALen.nil).line (by decide)))) (dss_cons (ds_if (dt_lt (de_o (de_v 0)) (de_o de_int)) (dss_one (ds_set (i := 0) sc_1001.nd rfl (by first | exact Or.inl rfl | exact Or.inr rfl) (de_sub (de_o de_int) (de_o (de_mul (de_o de_int) (de_o (de_v 0))))))) dss_nil) (dss_cons (ds_if (dt_ge (de_o (de_v 0)) (de_o (de_pow (de_o de_int) (de_o de_int)))) (dss_cons (ds_for (passes_of rfl) rfl (di_r1 rfl T.b_range de_int) (pg_name (i := 4) sc_1001.nd rfl (by first | exact Or.inl rfl | exact Or.inr rfl)) (dss_one (ds_if (dw_t (dw_and (dt_gt (de_o (de_v 0)) (de_o de_int)) (dw_and1 (dt_lt (de_o (de_len rfl T.b_len (do_v 3))) (de_o (de_v 2)))))) (dss_cons (ds_appO 3 (pe_bm PySem.F.plainAttrs_list PySem.F.slot_list_append PySem.F.type_list_append mt_append (pv 3) (pa_cons (de_mod (de_o (de_intc rfl T.b_int (de_o (de_v 0)))) (de_o de_int)) pa_nil))) (dss_one (ds_set (i := 0) sc_1001.nd rfl (by first | exact Or.inl rfl | exact Or.inr rfl) (de_div (de_o (de_v 0)) (de_o de_int))))) dss_nil))) (dss_one (ds_retO 3))) dss_nil) (dss_cons (ds_set (i := 5) sc_1001.nd rfl (by first | exact Or.inl rfl | exact Or.inr rfl) (de_mod (de_o (de_intc rfl T.b_int (de_o (de_add (de_o (de_add (de_o (de_mul (de_o (de_v 0)) (de_o de_int))) (de_o (de_mul (de_o (de_v 1)) (de_o de_int))))) (de_o de_int))))) (de_o de_int))) (dss_clr [4] (dss_cons (ds_for (passes_of rfl) rfl (di_r1 rfl T.b_range (de_v 2)) (pg_name (i := 4) sc_1001.nd rfl (by first | exact Or.inl rfl | exact Or.inr rfl)) (dss_cons (ds_set (i := 5) sc_1001.nd rfl (by first | exact Or.inl rfl | exact Or.inr rfl) (de_mod (de_o (de_intc rfl T.b_int (de_o (de_add (de_o (de_add (de_o (de_mul (de_o (de_v 5)) (de_o de_int))) (de_o (de_mul (de_o de_int) (de_o (de_v 4)))))) (de_o de_int))))) (de_o de_int))) (dss_one (ds_appO 3 (pe_bm PySem.F.plainAttrs_list PySem.F.slot_list_append PySem.F.type_list_append mt_append (pv 3) (pa_cons (de_mod (de_o (de_intc rfl T.b_int (de_o (de_div (de_o (de_v 5)) (de_o de_int))))) (de_o de_int)) pa_nil)))))) (dss_one (ds_retO 3))))))))
/-- _law_box -/
theorem W_1002 (T : Top P K mg cls A FD) (a : All P w K mg base cls A FD n R) : FnG P w K mg base (2 * n + 1 + 1) (A 1002) (FD 1002) ["_law_script", "_law_first", "_law_last"] (spD ⟨K, cls⟩ 3 (B_1002 R)) :=
  defG_ok T.f_1002 sc_1002 fun cdv A' outer s H E hr => by
    have tk := takes_of (X := cxOf (L2.CX P w) P w K mg base N_1002 "_law_box" (defScope s_1002) (A 1002) cdv A' outer s H E) rfl rfl rfl rfl
    have hr1 := hr
    have hr := hr1.less (show 2 * n ≤ 2 * n + 1 by omega)
    exact (dss_cons (ds_set (i := 3) sc_1002.nd rfl (by first | exact Or.inl rfl | exact Or.inr rfl) (df_e (df_lst da_nil ((ALen.nil).line (by decide))))) (dss_cons (ds_for (passes_of rfl) rfl (di_r2 rfl T.b_range (de_v 1) (de_v 2)) (pg_name (i := 4) sc_1002.nd rfl (by first | exact Or.inl rfl | exact Or.inr rfl)) (dss_one (ds_set (i := 3) sc_1002.nd rfl (by first | exact Or.inl rfl | exact Or.inr rfl) (de_add (de_o (de_v 3)) (de_o (de_callG a.k_1001 tk hr rfl T.g_1001 T.f_1001.kp T.n_1001 (da_cons (de_callG a.k_1000 tk hr rfl T.g_1000 T.f_1000.kp T.n_1000 (da_cons (de_v 0) (da_cons (de_v 4) da_nil)) (ALen.cons (ALen.cons ALen.nil))) (da_cons (de_v 4) (da_cons de_int da_nil))) (ALen.cons (ALen.cons (ALen.cons ALen.nil))))))))) (dss_one (ds_ret (de_box (df_lst (da_cons (de_v 3) (da_cons de_int da_nil)) ((ALen.cons (ALen.cons ALen.nil)).line (by decide))))))))
/-- _law_draw -/
theorem W_1003 (T : Top P K mg cls A FD) (a : All P w K mg base cls A FD n R) : FnG P w K mg base (2 * n + 1 + 1) (A 1003) (FD 1003) ["_law_box_here", "_law_many"] (spD ⟨K, cls⟩ 2 (B_1003 R)) :=
  defG_ok T.f_1003 sc_1003 fun cdv A' outer s H E hr => by
    have tk := takes_of (X := cxOf (L2.CX P w) P w K mg base N_1003 "_law_draw" (defScope s_1003) (A 1003) cdv A' outer s H E) rfl rfl rfl rfl
    have hr1 := hr
    have hr := hr1.less (show 2 * n ≤ 2 * n + 1 by omega)
    exact (dss_cons (ds_set (i := 2) sc_1003.nd rfl (by first | exact Or.inl rfl | exact Or.inr rfl) (de_sub_ (de_o (de_v 0)) (de_o de_int))) (dss_cons (ds_setP (pg_sub (de_v 0) de_int set_list) (de_add (de_o (de_v 2)) (de_o de_int))) (dss_cons (ds_if (dt_lt (de_o (de_v 2)) (de_o (de_len rfl T.b_len (de_o (de_sub_ (de_o (de_v 0)) (de_o de_int)))))) (dss_one (ds_ret (de_mod (de_o (de_intc rfl T.b_int (de_o (de_sub_ (de_o (de_sub_ (de_o (de_v 0)) (de_o de_int))) (de_o (de_v 2)))))) (de_o (de_v 1))))) dss_nil) (dss_one (ds_ret (de_mod (de_o (de_intc rfl T.b_int (de_o (de_add (de_o (de_mul (de_o (de_v 2)) (de_o de_int))) (de_o de_int))))) (de_o (de_v 1))))))))
/-- _law_same -/
theorem W_1004 (T : Top P K mg cls A FD) (a : All P w K mg base cls A FD n R) : FnG P w K mg base (2 * n + 1 + 1) (A 1004) (FD 1004) ["_law_one", "_law_other"] (spD ⟨K, cls⟩ 2 (B_1004 R)) :=
  defG_ok T.f_1004 sc_1004 fun cdv A' outer s H E hr => by
    have tk := takes_of (X := cxOf (L2.CX P w) P w K mg base N_1004 "_law_same" (defScope s_1004) (A 1004) cdv A' outer s H E) rfl rfl rfl rfl
    have hr1 := hr
    have hr := hr1.less (show 2 * n ≤ 2 * n + 1 by omega)
    exact (dss_one (ds_ret (de_eq hr.units (de_o (de_reprA hr.x rfl T.b_repr (de_o (de_v 0)))) (de_o (de_reprA hr.x rfl T.b_repr (de_o (de_v 1)))))))
/-- _law_message -/
theorem W_1005 (T : Top P K mg cls A FD) (a : All P w K mg base cls A FD n R) : FnG P w K mg base (2 * n + 1 + 1) (A 1005) (FD 1005) ["_law_box_here", "_law_depth", "_law_inside", "_law_numbers"] (spD ⟨K, cls⟩ 4 (B_1005 R)) :=
  defG_ok T.f_1005 sc_1005 fun cdv A' outer s H E hr => by
    have tk := takes_of (X := cxOf (L2.CX P w) P w K mg base N_1005 "_law_message" (defScope s_1005) (A 1005) cdv A' outer s H E) rfl rfl rfl rfl
    have hr1 := hr
    have hr := hr1.less (show 2 * n ≤ 2 * n + 1 by omega)
    exact (dss_cons (ds_own (i := 4) sc_1005.nd rfl (by first | exact Or.inl rfl | exact Or.inr rfl) (df_lst da_nil ((ALen.nil).line (by decide)))) (dss_cons (ds_for (passes_of rfl) rfl (di_r1 rfl T.b_range (de_add (de_o de_int) (de_o (de_callG a.k_1003 tk hr rfl T.g_1003 T.f_1003.kp T.n_1003 (da_cons (de_v 0) (da_cons de_int da_nil)) (ALen.cons (ALen.cons ALen.nil)))))) (pg_name (i := 5) sc_1005.nd rfl (by first | exact Or.inl rfl | exact Or.inr rfl)) (dss_cons (ds_set (i := 6) sc_1005.nd rfl (by first | exact Or.inl rfl | exact Or.inr rfl) (de_callG a.k_1003 tk hr rfl T.g_1003 T.f_1003.kp T.n_1003 (da_cons (de_v 0) (da_cons de_int da_nil)) (ALen.cons (ALen.cons ALen.nil)))) (dss_one (ds_if (dw_t (dw_and (dt_gt (de_o (de_v 1)) (de_o de_int)) (dw_and1 (dt_lt (de_o (de_v 6)) (de_o de_int))))) (dss_cons (ds_ownC (ps_comp (i := 7) (own := [("_law_word", 10)]) (p := (.nm 10)) (ι := (iA (eLst (aCons (eC (.str "he")) (aCons (eC (.str "she")) aNil))))) (τ := (tB (eOp oGt (eCall (R 1003) (aCons (eV 0) (aCons (eC (.int 3)) aNil))) (eC (.int 0))))) (ε := C_1005_1 R) rfl sc_1005.nd rfl rfl (sw_true rfl rfl rfl (by decide +kernel)) (di_a (df_e (df_lst (da_cons de_str (da_cons de_str da_nil)) ((ALen.cons (ALen.cons ALen.nil)).line (by decide))))) (blkOk_by (N := N_1005) (sc := defScope s_1005) (own := [("_law_word", 10)]) (by decide +kernel)) (by decide) (fun _ _ _ _ _ => (pg_name (i := 10) sc_1005.nd rfl (by first | exact Or.inl rfl | exact Or.inr rfl))) (fun _ _ _ _ _ => (dts_one (dt_gt (de_o (de_callG a.k_1003 takes0 hr rfl T.g_1003 T.f_1003.kp T.n_1003 (da_cons (de_v 0) (da_cons de_int da_nil)) (ALen.cons (ALen.cons ALen.nil)))) (de_o de_int)))) (fun _ _ _ _ _ => (de_tup (da_cons (de_v 10) (da_cons (de_callG a.k_1005 takes0 hr rfl T.g_1005 T.f_1005.kp T.n_1005 (da_cons (de_v 0) (da_cons (de_sub (de_o (de_v 1)) (de_o de_int)) (da_cons (de_v 2) (da_cons (de_v 3) da_nil)))) (ALen.cons (ALen.cons (ALen.cons (ALen.cons ALen.nil))))) da_nil)) ((ALen.cons (ALen.cons ALen.nil)).line (by decide)))))) (dss_settle 7 (dss_one (ds_appO 4 (pe_bm PySem.F.plainAttrs_list PySem.F.slot_list_append PySem.F.type_list_append mt_append (pv 4) (pa_cons (de_tup (da_cons de_str (da_cons de_str (da_cons (de_v 7) (da_cons (de_callG a.k_1005 tk hr rfl T.g_1005 T.f_1005.kp T.n_1005 (da_cons (de_v 0) (da_cons (de_sub (de_o (de_v 1)) (de_o de_int)) (da_cons (de_v 2) (da_cons (de_v 3) da_nil)))) (ALen.cons (ALen.cons (ALen.cons (ALen.cons ALen.nil))))) da_nil)))) ((ALen.cons (ALen.cons (ALen.cons (ALen.cons ALen.nil)))).line (by decide))) pa_nil)))))) (dss_one (ds_if (dw_t (dw_and (dt_gt (de_o (de_v 1)) (de_o de_int)) (dw_and1 (dt_lt (de_o (de_v 6)) (de_o de_int))))) (dss_cons (ds_own (i := 7) sc_1005.nd rfl (by first | exact Or.inl rfl | exact Or.inr rfl) (df_lst da_nil ((ALen.nil).line (by decide)))) (dss_cons (ds_for (passes_of rfl) rfl (di_a (df_e (df_lst (da_cons de_int (da_cons de_int (da_cons de_int (da_cons de_str (da_cons de_str (da_cons de_str da_nil)))))) ((ALen.cons (ALen.cons (ALen.cons (ALen.cons (ALen.cons (ALen.cons ALen.nil)))))).line (by decide))))) (pg_name (i := 8) sc_1005.nd rfl (by first | exact Or.inl rfl | exact Or.inr rfl)) (dss_one (ds_if (dt_eq hr.units (de_o (de_callG a.k_1003 tk hr rfl T.g_1003 T.f_1003.kp T.n_1003 (da_cons (de_v 0) (da_cons de_int da_nil)) (ALen.cons (ALen.cons ALen.nil)))) (de_o de_int)) (dss_one (ds_appO 7 (pe_bm PySem.F.plainAttrs_list PySem.F.slot_list_append PySem.F.type_list_append mt_append (pv 7) (pa_cons (de_tup (da_cons (de_v 8) (da_cons (de_callG a.k_1005 tk hr rfl T.g_1005 T.f_1005.kp T.n_1005 (da_cons (de_v 0) (da_cons (de_sub (de_o (de_v 1)) (de_o de_int)) (da_cons de_bl (da_cons (de_v 3) da_nil)))) (ALen.cons (ALen.cons (ALen.cons (ALen.cons ALen.nil))))) da_nil)) ((ALen.cons (ALen.cons ALen.nil)).line (by decide))) pa_nil)))) dss_nil))) (dss_cons (ds_set (i := 9) sc_1005.nd rfl (by first | exact Or.inl rfl | exact Or.inr rfl) (de_sub_ (de_o (de_v 3)) (de_o (de_mod (de_o (de_intc rfl T.b_int (de_o (de_callG a.k_1003 tk hr rfl T.g_1003 T.f_1003.kp T.n_1003 (da_cons (de_v 0) (da_cons de_int da_nil)) (ALen.cons (ALen.cons ALen.nil)))))) (de_o (de_len rfl T.b_len (de_o (de_v 3)))))))) (dss_settle 7 (dss_one (ds_appO 4 (pe_bm PySem.F.plainAttrs_list PySem.F.slot_list_append PySem.F.type_list_append mt_append (pv 4) (pa_cons (de_tup (da_cons de_str (da_cons (de_v 9) (da_cons (de_sub_ (df_o (df_lst (da_cons de_int (da_cons de_int (da_cons de_int (da_cons de_int da_nil)))) ((ALen.cons (ALen.cons (ALen.cons (ALen.cons ALen.nil)))).line (by decide)))) (de_o (de_callG a.k_1003 tk hr rfl T.g_1003 T.f_1003.kp T.n_1003 (da_cons (de_v 0) (da_cons de_int da_nil)) (ALen.cons (ALen.cons ALen.nil))))) (da_cons (de_v 7) (da_cons (de_callG a.k_1005 tk hr rfl T.g_1005 T.f_1005.kp T.n_1005 (da_cons (de_v 0) (da_cons (de_sub (de_o (de_v 1)) (de_o de_int)) (da_cons de_bl (da_cons (de_v 3) da_nil)))) (ALen.cons (ALen.cons (ALen.cons (ALen.cons ALen.nil))))) da_nil))))) ((ALen.cons (ALen.cons (ALen.cons (ALen.cons (ALen.cons ALen.nil))))).line (by decide))) pa_nil)))))))) (dss_one (ds_if (dw_t (dw_and (dt_eq hr.units (de_o (de_v 6)) (de_o de_int)) (dw_and1 (dt_tru (de_o (de_v 2)))))) (dss_one (ds_appO 4 (pe_bm PySem.F.plainAttrs_list PySem.F.slot_list_append PySem.F.type_list_append mt_append (pv 4) (pa_cons (de_tup (da_cons de_str da_nil) ((ALen.cons ALen.nil).line (by decide))) pa_nil)))) (dss_one (ds_if (dt_eq hr.units (de_o (de_v 6)) (de_o de_int)) (dss_one (ds_appO 4 (pe_bm PySem.F.plainAttrs_list PySem.F.slot_list_append PySem.F.type_list_append mt_append (pv 4) (pa_cons (de_tup (da_cons de_str (da_cons (de_sub_ (df_o (df_lst (da_cons de_str (da_cons de_str (da_cons de_str da_nil))) ((ALen.cons (ALen.cons (ALen.cons ALen.nil))).line (by decide)))) (de_o (de_callG a.k_1003 tk hr rfl T.g_1003 T.f_1003.kp T.n_1003 (da_cons (de_v 0) (da_cons de_int da_nil)) (ALen.cons (ALen.cons ALen.nil))))) da_nil)) ((ALen.cons (ALen.cons ALen.nil)).line (by decide))) pa_nil)))) (dss_one (ds_appO 4 (pe_bm PySem.F.plainAttrs_list PySem.F.slot_list_append PySem.F.type_list_append mt_append (pv 4) (pa_cons (de_tup (da_cons de_str (da_cons (de_sub_ (df_o (df_lst (da_cons de_str (da_cons de_str (da_cons de_str (da_cons de_str (da_cons de_str da_nil))))) ((ALen.cons (ALen.cons (ALen.cons (ALen.cons (ALen.cons ALen.nil))))).line (by decide)))) (de_o (de_callG a.k_1003 tk hr rfl T.g_1003 T.f_1003.kp T.n_1003 (da_cons (de_v 0) (da_cons de_int da_nil)) (ALen.cons (ALen.cons ALen.nil))))) da_nil)) ((ALen.cons (ALen.cons ALen.nil)).line (by decide))) pa_nil)))))))))))))) (dss_one (ds_retO 4))))
/-- _law_paths -/
theorem W_1006 (T : Top P K mg cls A FD) (a : All P w K mg base cls A FD n R) : FnG P w K mg base (2 * n + 1 + 1) (A 1006) (FD 1006) ["_law_message_here"] (spD ⟨K, cls⟩ 1 (B_1006 R)) :=
  defG_ok T.f_1006 sc_1006 fun cdv A' outer s H E hr => by
    have tk := takes_of (X := cxOf (L2.CX P w) P w K mg base N_1006 "_law_paths" (defScope s_1006) (A 1006) cdv A' outer s H E) rfl rfl rfl rfl
    have hr1 := hr
    have hr := hr1.less (show 2 * n ≤ 2 * n + 1 by omega)
    exact (dss_cons (ds_own (i := 1) sc_1006.nd rfl (by first | exact Or.inl rfl | exact Or.inr rfl) (df_lst da_nil ((ALen.nil).line (by decide)))) (dss_cons (ds_for (passes_of rfl) rfl (di_r1 rfl T.b_range (de_len rfl T.b_len (de_o (de_v 0)))) (pg_name (i := 2) sc_1006.nd rfl (by first | exact Or.inl rfl | exact Or.inr rfl)) (dss_cons (ds_set (i := 3) sc_1006.nd rfl (by first | exact Or.inl rfl | exact Or.inr rfl) (de_sub_ (de_o (de_v 0)) (de_o (de_v 2)))) (dss_one (ds_if (dt_in (de_o (de_sub_ (de_o (de_v 3)) (de_o de_int))) (df_o (df_lst (da_cons de_str (da_cons de_str da_nil)) ((ALen.cons (ALen.cons ALen.nil)).line (by decide)))) rfl) (dss_one (ds_for (passes_of rfl) rfl (di_a (de_add (de_o (de_sub_ (de_o (de_v 3)) (de_o (de_neg (de_o de_int))))) (df_o (df_lst (da_cons (de_tup (da_cons de_str (da_cons (de_sub_ (de_o (de_v 3)) (de_o (de_neg (de_o de_int)))) da_nil)) ((ALen.cons (ALen.cons ALen.nil)).line (by decide))) da_nil) ((ALen.cons ALen.nil).line (by decide)))))) (pg_tup rfl (pgs_cons (pg_name (i := 4) sc_1006.nd rfl (by first | exact Or.inl rfl | exact Or.inr rfl)) (pgs_cons (pg_name (i := 5) sc_1006.nd rfl (by first | exact Or.inl rfl | exact Or.inr rfl)) pgs_nil))) (dss_cons (ds_appO 1 (pe_bm PySem.F.plainAttrs_list PySem.F.slot_list_append PySem.F.type_list_append mt_append (pv 1) (pa_cons (de_tup (da_cons (de_tup (da_cons (de_v 2) (da_cons (de_v 4) da_nil)) ((ALen.cons (ALen.cons ALen.nil)).line (by decide))) da_nil) ((ALen.cons ALen.nil).line (by decide))) pa_nil))) (dss_one (ds_own (i := 1) sc_1006.nd rfl (by first | exact Or.inl rfl | exact Or.inr rfl) (df_cat (do_v 1) (df_o (df_comp (own := [("_law_path_here", 6)]) (p := (.nm 6)) (ι := (iA (eCall (R 1006) (aCons (eV 5) aNil)))) (τ := tTrue) (ε := C_1006_1 R) rfl sc_1006.nd (di_a (de_callG a.k_1006 tk hr rfl T.g_1006 T.f_1006.kp T.n_1006 (da_cons (de_v 5) da_nil) (ALen.cons ALen.nil))) (blkOk_by (N := N_1006) (sc := defScope s_1006) (own := [("_law_path_here", 6)]) (by decide +kernel)) (by decide) (fun _ _ _ _ _ => (pg_name (i := 6) sc_1006.nd rfl (by first | exact Or.inl rfl | exact Or.inr rfl))) (fun _ _ _ _ _ => dts_nil) (fun _ _ _ _ _ => (de_add (de_o (de_tup (da_cons (de_tup (da_cons (de_v 2) (da_cons (de_v 4) da_nil)) ((ALen.cons (ALen.cons ALen.nil)).line (by decide))) da_nil) ((ALen.cons ALen.nil).line (by decide)))) (de_o (de_v 6)))))))))))) dss_nil)))) (dss_one (ds_retO 1))))
/-- _law_at -/
theorem W_1007 (T : Top P K mg cls A FD) (a : All P w K mg base cls A FD n R) : FnG P w K mg base (2 * n + 1 + 1) (A 1007) (FD 1007) ["_law_message_here", "_law_path_here"] (spD ⟨K, cls⟩ 2 (B_1007 R)) :=
  defG_ok T.f_1007 sc_1007 fun cdv A' outer s H E hr => by
    have tk := takes_of (X := cxOf (L2.CX P w) P w K mg base N_1007 "_law_at" (defScope s_1007) (A 1007) cdv A' outer s H E) rfl rfl rfl rfl
    have hr1 := hr
    have hr := hr1.less (show 2 * n ≤ 2 * n + 1 by omega)
    exact (dss_cons (ds_set (i := 2) sc_1007.nd rfl (by first | exact Or.inl rfl | exact Or.inr rfl) (de_v 0)) (dss_cons (ds_for (passes_of rfl) rfl (di_a (de_v 1)) (pg_tup rfl (pgs_cons (pg_name (i := 3) sc_1007.nd rfl (by first | exact Or.inl rfl | exact Or.inr rfl)) (pgs_cons (pg_name (i := 4) sc_1007.nd rfl (by first | exact Or.inl rfl | exact Or.inr rfl)) pgs_nil))) (dss_cons (ds_if (dw_t (dw_or (dt_lt (de_o (de_v 3)) (de_o de_int)) (dw_or (dt_ge (de_o (de_v 3)) (de_o (de_len rfl T.b_len (de_o (de_v 2))))) (dw_or1 (dt_notIn (de_o (de_sub_ (de_o (de_sub_ (de_o (de_v 2)) (de_o (de_v 3)))) (de_o de_int))) (df_o (df_lst (da_cons de_str (da_cons de_str da_nil)) ((ALen.cons (ALen.cons ALen.nil)).line (by decide)))) rfl))))) (dss_one (ds_ret (df_e (df_lst da_nil ((ALen.nil).line (by decide)))))) dss_nil) (dss_cons (ds_set (i := 5) sc_1007.nd rfl (by first | exact Or.inl rfl | exact Or.inr rfl) (de_add (de_o (de_sub_ (de_o (de_sub_ (de_o (de_v 2)) (de_o (de_v 3)))) (de_o (de_neg (de_o de_int))))) (df_o (df_lst (da_cons (de_tup (da_cons de_str (da_cons (de_sub_ (de_o (de_sub_ (de_o (de_v 2)) (de_o (de_v 3)))) (de_o (de_neg (de_o de_int)))) da_nil)) ((ALen.cons (ALen.cons ALen.nil)).line (by decide))) da_nil) ((ALen.cons ALen.nil).line (by decide)))))) (dss_cons (ds_setC (ps_comp (i := 6) (own := [("_law_other", 7), ("_law_case", 8)]) (p := (.tp [(.nm 7), (.nm 8)])) (ι := (iA (eV 5))) (τ := (tTru (eCall (R 1004) (aCons (eV 7) (aCons (eV 4) aNil))))) (ε := C_1007_1 R) rfl sc_1007.nd rfl rfl (sw_true rfl rfl rfl (by decide +kernel)) (di_a (de_v 5)) (blkOk_by (N := N_1007) (sc := defScope s_1007) (own := [("_law_other", 7), ("_law_case", 8)]) (by decide +kernel)) (by decide) (fun _ _ _ _ _ => (pg_tup rfl (pgs_cons (pg_name (i := 7) sc_1007.nd rfl (by first | exact Or.inl rfl | exact Or.inr rfl)) (pgs_cons (pg_name (i := 8) sc_1007.nd rfl (by first | exact Or.inl rfl | exact Or.inr rfl)) pgs_nil)))) (fun _ _ _ _ _ => (dts_one (dt_tru (de_o (de_callG a.k_1004 takes0 hr rfl T.g_1004 T.f_1004.kp T.n_1004 (da_cons (de_v 7) (da_cons (de_v 4) da_nil)) (ALen.cons (ALen.cons ALen.nil))))))) (fun _ _ _ _ _ => (de_v 8)))) (dss_cons (ds_if (dt_eq hr.units (de_o (de_v 6)) (df_o (df_lst da_nil ((ALen.nil).line (by decide))))) (dss_one (ds_ret (df_e (df_lst da_nil ((ALen.nil).line (by decide)))))) dss_nil) (dss_one (ds_set (i := 2) sc_1007.nd rfl (by first | exact Or.inl rfl | exact Or.inr rfl) (de_sub_ (de_o (de_v 6)) (de_o de_int))))))))) (dss_one (ds_ret (df_e (df_lst (da_cons (de_v 2) da_nil) ((ALen.cons ALen.nil).line (by decide))))))))
/-- _law_put -/
theorem W_1008 (T : Top P K mg cls A FD) (a : All P w K mg base cls A FD n R) : FnG P w K mg base (2 * n + 1 + 1) (A 1008) (FD 1008) ["_law_message_here", "_law_path_here", "_law_inner"] (spD ⟨K, cls⟩ 3 (B_1008 R)) :=
  defG_ok T.f_1008 sc_1008 fun cdv A' outer s H E hr => by
    have tk := takes_of (X := cxOf (L2.CX P w) P w K mg base N_1008 "_law_put" (defScope s_1008) (A 1008) cdv A' outer s H E) rfl rfl rfl rfl
    have hr1 := hr
    have hr := hr1.less (show 2 * n ≤ 2 * n + 1 by omega)
    exact (dss_cons (ds_if (dt_eq hr.units (de_o (de_v 1)) (de_o (de_tup da_nil ((ALen.nil).line (by decide))))) (dss_one (ds_ret (df_e (df_list rfl T.b_list (de_o (de_v 2)))))) dss_nil) (dss_cons (ds_bind (de_sub_ (de_o (de_v 1)) (de_o de_int)) (pg_tup rfl (pgs_cons (pg_name (i := 3) sc_1008.nd rfl (by first | exact Or.inl rfl | exact Or.inr rfl)) (pgs_cons (pg_name (i := 4) sc_1008.nd rfl (by first | exact Or.inl rfl | exact Or.inr rfl)) pgs_nil)))) (dss_cons (ds_set (i := 5) sc_1008.nd rfl (by first | exact Or.inl rfl | exact Or.inr rfl) (de_sub_ (de_o (de_v 0)) (de_o (de_v 3)))) (dss_cons (ds_own (i := 6) sc_1008.nd rfl (by first | exact Or.inl rfl | exact Or.inr rfl) (df_lst da_nil ((ALen.nil).line (by decide)))) (dss_cons (ds_set (i := 7) sc_1008.nd rfl (by first | exact Or.inl rfl | exact Or.inr rfl) (de_sub_ (de_o (de_v 5)) (de_o (de_neg (de_o de_int))))) (dss_cons (ds_for (passes_of rfl) rfl (di_a (de_sub_ (de_o (de_v 5)) (de_o (de_neg (de_o de_int))))) (pg_tup rfl (pgs_cons (pg_name (i := 8) sc_1008.nd rfl (by first | exact Or.inl rfl | exact Or.inr rfl)) (pgs_cons (pg_name (i := 9) sc_1008.nd rfl (by first | exact Or.inl rfl | exact Or.inr rfl)) pgs_nil))) (dss_one (ds_if (dt_tru (de_o (de_callG a.k_1004 tk hr rfl T.g_1004 T.f_1004.kp T.n_1004 (da_cons (de_v 8) (da_cons (de_v 4) da_nil)) (ALen.cons (ALen.cons ALen.nil))))) (dss_one (ds_appO 6 (pe_bm PySem.F.plainAttrs_list PySem.F.slot_list_append PySem.F.type_list_append mt_append (pv 6) (pa_cons (de_tup (da_cons (de_v 8) (da_cons (de_callG a.k_1008 tk hr rfl T.g_1008 T.f_1008.kp T.n_1008 (da_cons (de_v 9) (da_cons (de_cut (de_o (de_v 1)) (dp_so de_int) dp_no) (da_cons (de_v 2) da_nil))) (ALen.cons (ALen.cons (ALen.cons ALen.nil)))) da_nil)) ((ALen.cons (ALen.cons ALen.nil)).line (by decide))) pa_nil)))) (dss_one (ds_appO 6 (pe_bm PySem.F.plainAttrs_list PySem.F.slot_list_append PySem.F.type_list_append mt_append (pv 6) (pa_cons (de_tup (da_cons (de_v 8) (da_cons (de_v 9) da_nil)) ((ALen.cons (ALen.cons ALen.nil)).line (by decide))) pa_nil))))))) (dss_cons (ds_if (dt_eq hr.units (de_o (de_v 4)) (de_o de_str)) (dss_one (ds_set (i := 7) sc_1008.nd rfl (by first | exact Or.inl rfl | exact Or.inr rfl) (de_callG a.k_1008 tk hr rfl T.g_1008 T.f_1008.kp T.n_1008 (da_cons (de_v 7) (da_cons (de_cut (de_o (de_v 1)) (dp_so de_int) dp_no) (da_cons (de_v 2) da_nil))) (ALen.cons (ALen.cons (ALen.cons ALen.nil)))))) dss_nil) (dss_settle 6 (dss_one (ds_ret (de_add (de_o (de_add (de_o (de_cut (de_o (de_v 0)) dp_no (dp_so (de_v 3)))) (df_o (df_lst (da_cons (de_add (de_o (de_cut (de_o (de_v 5)) dp_no (dp_so (de_neg (de_o de_int))))) (de_o (de_tup (da_cons (de_v 6) (da_cons (de_v 7) da_nil)) ((ALen.cons (ALen.cons ALen.nil)).line (by decide))))) da_nil) ((ALen.cons ALen.nil).line (by decide)))))) (de_o (de_cut (de_o (de_v 0)) (dp_so (de_add (de_o (de_v 3)) (de_o de_int))) dp_no)))))))))))))
/-- _law_path -/
theorem W_1009 (T : Top P K mg cls A FD) (a : All P w K mg base cls A FD n R) : FnG P w K mg base (2 * n + 1 + 1) (A 1009) (FD 1009) ["_law_box_here", "_law_message_here"] (spD ⟨K, cls⟩ 2 (B_1009 R)) :=
  defG_ok T.f_1009 sc_1009 fun cdv A' outer s H E hr => by
    have tk := takes_of (X := cxOf (L2.CX P w) P w K mg base N_1009 "_law_path" (defScope s_1009) (A 1009) cdv A' outer s H E) rfl rfl rfl rfl
    have hr1 := hr
    have hr := hr1.less (show 2 * n ≤ 2 * n + 1 by omega)
    exact (dss_cons (ds_set (i := 2) sc_1009.nd rfl (by first | exact Or.inl rfl | exact Or.inr rfl) (de_add (df_o (df_lst (da_cons (de_tup da_nil ((ALen.nil).line (by decide))) da_nil) ((ALen.cons ALen.nil).line (by decide)))) (de_o (de_callG a.k_1006 tk hr rfl T.g_1006 T.f_1006.kp T.n_1006 (da_cons (de_v 1) da_nil) (ALen.cons ALen.nil))))) (dss_cons (ds_set (i := 3) sc_1009.nd rfl (by first | exact Or.inl rfl | exact Or.inr rfl) (de_sub_ (de_o (de_v 2)) (de_o (de_mod (de_o (de_intc rfl T.b_int (de_o (de_callG a.k_1003 tk hr rfl T.g_1003 T.f_1003.kp T.n_1003 (da_cons (de_v 0) (da_cons de_int da_nil)) (ALen.cons (ALen.cons ALen.nil)))))) (de_o (de_len rfl T.b_len (de_o (de_v 2)))))))) (dss_cons (ds_set (i := 4) sc_1009.nd rfl (by first | exact Or.inl rfl | exact Or.inr rfl) (de_callG a.k_1003 tk hr rfl T.g_1003 T.f_1003.kp T.n_1003 (da_cons (de_v 0) (da_cons de_int da_nil)) (ALen.cons (ALen.cons ALen.nil)))) (dss_cons (ds_if (dt_eq hr.units (de_o (de_v 4)) (de_o de_int)) (dss_one (ds_ret (de_add (de_o (de_v 3)) (de_o (de_tup (da_cons (de_tup (da_cons (de_sub (de_o (de_callG a.k_1003 tk hr rfl T.g_1003 T.f_1003.kp T.n_1003 (da_cons (de_v 0) (da_cons de_int da_nil)) (ALen.cons (ALen.cons ALen.nil)))) (de_o de_int)) (da_cons (de_sub_ (df_o (df_lst (da_cons de_str (da_cons de_str (da_cons de_int (da_cons de_str da_nil)))) ((ALen.cons (ALen.cons (ALen.cons (ALen.cons ALen.nil)))).line (by decide)))) (de_o (de_callG a.k_1003 tk hr rfl T.g_1003 T.f_1003.kp T.n_1003 (da_cons (de_v 0) (da_cons de_int da_nil)) (ALen.cons (ALen.cons ALen.nil))))) da_nil)) ((ALen.cons (ALen.cons ALen.nil)).line (by decide))) da_nil) ((ALen.cons ALen.nil).line (by decide))))))) dss_nil) (dss_cons (ds_if (dw_t (dw_and (dt_eq hr.units (de_o (de_v 4)) (de_o de_int)) (dw_and1 (dt_ne hr.units (de_o (de_v 3)) (de_o (de_tup da_nil ((ALen.nil).line (by decide)))))))) (dss_cons (ds_bind (de_sub_ (de_o (de_v 3)) (de_o (de_neg (de_o de_int)))) (pg_tup rfl (pgs_cons (pg_name (i := 5) sc_1009.nd rfl (by first | exact Or.inl rfl | exact Or.inr rfl)) (pgs_cons (pg_name (i := 6) sc_1009.nd rfl (by first | exact Or.inl rfl | exact Or.inr rfl)) pgs_nil)))) (dss_one (ds_ret (de_add (de_o (de_cut (de_o (de_v 3)) dp_no (dp_so (de_neg (de_o de_int))))) (de_o (de_tup (da_cons (de_tup (da_cons (de_v 5) (da_cons (de_sub_ (df_o (df_lst (da_cons de_int (da_cons de_str (da_cons de_str (da_cons de_int da_nil)))) ((ALen.cons (ALen.cons (ALen.cons (ALen.cons ALen.nil)))).line (by decide)))) (de_o (de_callG a.k_1003 tk hr rfl T.g_1003 T.f_1003.kp T.n_1003 (da_cons (de_v 0) (da_cons de_int da_nil)) (ALen.cons (ALen.cons ALen.nil))))) da_nil)) ((ALen.cons (ALen.cons ALen.nil)).line (by decide))) da_nil) ((ALen.cons ALen.nil).line (by decide)))))))) dss_nil) (dss_cons (ds_if (dw_t (dw_and (dt_eq hr.units (de_o (de_v 4)) (de_o de_int)) (dw_and1 (dt_ne hr.units (de_o (de_v 3)) (de_o (de_tup da_nil ((ALen.nil).line (by decide)))))))) (dss_one (ds_ret (de_add (de_o (de_tup (da_cons (de_tup (da_cons (de_add (de_o (de_sub_ (de_o (de_sub_ (de_o (de_v 3)) (de_o de_int))) (de_o de_int))) (de_o de_int)) (da_cons (de_sub_ (de_o (de_sub_ (de_o (de_v 3)) (de_o de_int))) (de_o de_int)) da_nil)) ((ALen.cons (ALen.cons ALen.nil)).line (by decide))) da_nil) ((ALen.cons ALen.nil).line (by decide)))) (de_o (de_cut (de_o (de_v 3)) (dp_so de_int) dp_no))))) dss_nil) (dss_one (ds_ret (de_v 3)))))))))
/-- _law_plain -/
theorem W_1010 (T : Top P K mg cls A FD) (a : All P w K mg base cls A FD n R) : FnG P w K mg base (2 * n + 1 + 1) (A 1010) (FD 1010) ["_law_message_here"] (spD ⟨K, cls⟩ 1 (B_1010 R)) :=
  defG_ok T.f_1010 sc_1010 fun cdv A' outer s H E hr => by
    have tk := takes_of (X := cxOf (L2.CX P w) P w K mg base N_1010 "_law_plain" (defScope s_1010) (A 1010) cdv A' outer s H E) rfl rfl rfl rfl
    have hr1 := hr
    have hr := hr1.less (show 2 * n ≤ 2 * n + 1 by omega)
    exact (dss_cons (ds_own (i := 1) sc_1010.nd rfl (by first | exact Or.inl rfl | exact Or.inr rfl) (df_lst da_nil ((ALen.nil).line (by decide)))) (dss_cons (ds_for (passes_of rfl) rfl (di_a (de_v 0)) (pg_name (i := 2) sc_1010.nd rfl (by first | exact Or.inl rfl | exact Or.inr rfl)) (dss_one (ds_if (dt_eq hr.units (de_o (de_sub_ (de_o (de_v 2)) (de_o de_int))) (de_o de_str)) (dss_one (ds_if (dw_t (dw_and (dt_gt (de_o (de_len rfl T.b_len (do_v 1))) (de_o de_int)) (dw_and1 (dt_eq hr.units (de_o (de_sub_ (de_o (de_sub_ (do_v 1) (de_o (de_neg (de_o de_int))))) (de_o de_int))) (de_o de_str))))) (dss_one (ds_setO 1 (pg_sub (pv 1) (de_neg (de_o de_int)) set_list) (de_tup (da_cons de_str (da_cons (de_add (de_o (de_sub_ (de_o (de_sub_ (do_v 1) (de_o (de_neg (de_o de_int))))) (de_o de_int))) (de_o (de_sub_ (de_o (de_v 2)) (de_o de_int)))) da_nil)) ((ALen.cons (ALen.cons ALen.nil)).line (by decide))))) (dss_one (ds_if (dt_ne hr.units (de_o (de_sub_ (de_o (de_v 2)) (de_o de_int))) (de_o de_str)) (dss_one (ds_appO 1 (pe_bm PySem.F.plainAttrs_list PySem.F.slot_list_append PySem.F.type_list_append mt_append (pv 1) (pa_cons (de_v 2) pa_nil)))) dss_nil)))) (dss_one (ds_if (dt_in (de_o (de_sub_ (de_o (de_v 2)) (de_o de_int))) (df_o (df_lst (da_cons de_str (da_cons de_str da_nil)) ((ALen.cons (ALen.cons ALen.nil)).line (by decide)))) rfl) (dss_cons (ds_setC (ps_comp (i := 3) (own := [("_law_key", 4), ("_law_case", 5)]) (p := (.tp [(.nm 4), (.nm 5)])) (ι := (iA (eOp dIdx (eV 2) (eUn dNeg (eC (.int 2)))))) (τ := tTrue) (ε := C_1010_1 R) rfl sc_1010.nd rfl rfl (sw_true rfl rfl rfl (by decide +kernel)) (di_a (de_sub_ (de_o (de_v 2)) (de_o (de_neg (de_o de_int))))) (blkOk_by (N := N_1010) (sc := defScope s_1010) (own := [("_law_key", 4), ("_law_case", 5)]) (by decide +kernel)) (by decide) (fun _ _ _ _ _ => (pg_tup rfl (pgs_cons (pg_name (i := 4) sc_1010.nd rfl (by first | exact Or.inl rfl | exact Or.inr rfl)) (pgs_cons (pg_name (i := 5) sc_1010.nd rfl (by first | exact Or.inl rfl | exact Or.inr rfl)) pgs_nil)))) (fun _ _ _ _ _ => dts_nil) (fun _ _ _ _ _ => (de_tup (da_cons (de_v 4) (da_cons (de_callG a.k_1010 takes0 hr rfl T.g_1010 T.f_1010.kp T.n_1010 (da_cons (de_v 5) da_nil) (ALen.cons ALen.nil)) da_nil)) ((ALen.cons (ALen.cons ALen.nil)).line (by decide)))))) (dss_one (ds_appO 1 (pe_bm PySem.F.plainAttrs_list PySem.F.slot_list_append PySem.F.type_list_append mt_append (pv 1) (pa_cons (de_add (de_o (de_cut (de_o (de_v 2)) dp_no (dp_so (de_neg (de_o de_int))))) (de_o (de_tup (da_cons (de_v 3) (da_cons (de_callG a.k_1010 tk hr rfl T.g_1010 T.f_1010.kp T.n_1010 (da_cons (de_sub_ (de_o (de_v 2)) (de_o (de_neg (de_o de_int)))) da_nil) (ALen.cons ALen.nil)) da_nil)) ((ALen.cons (ALen.cons ALen.nil)).line (by decide))))) pa_nil))))) (dss_one (ds_appO 1 (pe_bm PySem.F.plainAttrs_list PySem.F.slot_list_append PySem.F.type_list_append mt_append (pv 1) (pa_cons (de_v 2) pa_nil))))))))) (dss_one (ds_retO 1))))
/-- _law_deed -/
theorem W_1011 (T : Top P K mg cls A FD) (a : All P w K mg base cls A FD n R) : FnG P w K mg base (2 * n + 1 + 1) (A 1011) (FD 1011) ["_law_box_here", "_law_now"] (spD ⟨K, cls⟩ 2 (B_1011 R)) :=
  defG_ok T.f_1011 sc_1011 fun cdv A' outer s H E hr => by
    have tk := takes_of (X := cxOf (L2.CX P w) P w K mg base N_1011 "_law_deed" (defScope s_1011) (A 1011) cdv A' outer s H E) rfl rfl rfl rfl
    have hr1 := hr
    have hr := hr1.less (show 2 * n ≤ 2 * n + 1 by omega)
    exact (dss_cons (ds_set (i := 2) sc_1011.nd rfl (by first | exact Or.inl rfl | exact Or.inr rfl) (df_e (df_lst (da_cons de_str (da_cons de_str (da_cons de_str (da_cons de_str da_nil)))) ((ALen.cons (ALen.cons (ALen.cons (ALen.cons ALen.nil)))).line (by decide))))) (dss_cons (ds_set (i := 3) sc_1011.nd rfl (by first | exact Or.inl rfl | exact Or.inr rfl) (de_sub_ (de_o (de_v 2)) (de_o (de_callG a.k_1003 tk hr rfl T.g_1003 T.f_1003.kp T.n_1003 (da_cons (de_v 0) (da_cons de_int da_nil)) (ALen.cons (ALen.cons ALen.nil)))))) (dss_cons (ds_set (i := 4) sc_1011.nd rfl (by first | exact Or.inl rfl | exact Or.inr rfl) (de_callG a.k_1003 tk hr rfl T.g_1003 T.f_1003.kp T.n_1003 (da_cons (de_v 0) (da_cons de_int da_nil)) (ALen.cons (ALen.cons ALen.nil)))) (dss_cons (ds_if (dt_lt (de_o (de_v 4)) (de_o de_int)) (dss_one (ds_ret (de_tup (da_cons de_str (da_cons (de_v 3) (da_cons (de_callG a.k_1005 tk hr rfl T.g_1005 T.f_1005.kp T.n_1005 (da_cons (de_v 0) (da_cons de_int (da_cons de_bl (da_cons (df_e (df_lst (da_cons de_str (da_cons de_str da_nil)) ((ALen.cons (ALen.cons ALen.nil)).line (by decide)))) da_nil)))) (ALen.cons (ALen.cons (ALen.cons (ALen.cons ALen.nil))))) da_nil))) ((ALen.cons (ALen.cons (ALen.cons ALen.nil))).line (by decide))))) dss_nil) (dss_cons (ds_if (dt_eq hr.units (de_o (de_v 4)) (de_o de_int)) (dss_one (ds_ret (de_tup (da_cons de_str (da_cons (de_v 3) da_nil)) ((ALen.cons (ALen.cons ALen.nil)).line (by decide))))) dss_nil) (dss_cons (ds_if (dt_lt (de_o (de_v 4)) (de_o de_int)) (dss_one (ds_ret (de_tup (da_cons de_str da_nil) ((ALen.cons ALen.nil).line (by decide))))) dss_nil) (dss_one (ds_ret (de_tup (da_cons de_str (da_cons (de_v 3) (da_cons (de_callG a.k_1009 tk hr rfl T.g_1009 T.f_1009.kp T.n_1009 (da_cons (de_v 0) (da_cons (de_dget2 hr.u1 (de_o (de_v 1)) (de_v 3) (df_e (df_lst da_nil ((ALen.nil).line (by decide)))) ⟨rfl, rfl, rfl, rfl⟩) da_nil)) (ALen.cons (ALen.cons ALen.nil))) (da_cons (de_callG a.k_1005 tk hr rfl T.g_1005 T.f_1005.kp T.n_1005 (da_cons (de_v 0) (da_cons de_int (da_cons de_bl (da_cons (df_e (df_lst (da_cons de_str (da_cons de_str da_nil)) ((ALen.cons (ALen.cons ALen.nil)).line (by decide)))) da_nil)))) (ALen.cons (ALen.cons (ALen.cons (ALen.cons ALen.nil))))) da_nil)))) ((ALen.cons (ALen.cons (ALen.cons (ALen.cons ALen.nil)))).line (by decide)))))))))))
/-- _law_done -/
theorem W_1012 (T : Top P K mg cls A FD) (a : All P w K mg base cls A FD n R) : FnG P w K mg base (2 * n + 1 + 1) (A 1012) (FD 1012) ["_law_states", "_law_deed_here"] (spD ⟨K, cls⟩ 2 (B_1012 R)) :=
  defG_ok T.f_1012 sc_1012 fun cdv A' outer s H E hr => by
    have tk := takes_of (X := cxOf (L2.CX P w) P w K mg base N_1012 "_law_done" (defScope s_1012) (A 1012) cdv A' outer s H E) rfl rfl rfl rfl
    have hr1 := hr
    have hr := hr1.less (show 2 * n ≤ 2 * n + 1 by omega)
    exact (dss_cons (ds_own (i := 2) sc_1012.nd rfl (by first | exact Or.inl rfl | exact Or.inr rfl) df_dct0) (dss_cons (ds_forKL 0 (passes_of rfl) rfl (pg_name (i := 3) sc_1012.nd rfl (by first | exact Or.inl rfl | exact Or.inr rfl)) (dss_one (ds_putO 2 hr.u1 (pv 2) (de_v 3) (de_subA hr.u1 (de_o (de_sub_ (de_o (de_v 0)) (de_o (de_neg (de_o de_int))))) (de_o (de_v 3)) (de_sub_ (de_o (de_sub_ (de_o (de_v 0)) (de_o (de_neg (de_o de_int))))) (de_o (de_v 3))) (fun _ _ => rfl))))) (dss_cons (ds_if (dt_eq hr.units (de_o (de_sub_ (de_o (de_v 1)) (de_o de_int))) (de_o de_str)) (dss_cons (ds_if (dt_eq hr.units (de_o (de_len rfl T.b_len (de_o (de_v 0)))) (de_o de_int)) (dss_one (ds_ret de_bl)) dss_nil) (dss_cons (ds_popP (pe_bm0 PySem.F.plainAttrs_list PySem.F.slot_list_pop PySem.F.type_list_pop mt_pop (de_v 0))) (dss_one (ds_ret de_bl)))) dss_nil) (dss_cons (ds_set (i := 3) sc_1012.nd rfl (by first | exact Or.inl rfl | exact Or.inr rfl) (de_sub_ (de_o (de_v 1)) (de_o de_int))) (dss_cons (ds_set (i := 4) sc_1012.nd rfl (by first | exact Or.inl rfl | exact Or.inr rfl) (de_inA hr.u1 (de_o (de_v 3)) (do_v 2) rfl)) (dss_cons (ds_if (dt_eq hr.units (de_o (de_sub_ (de_o (de_v 1)) (de_o de_int))) (de_o de_str)) (dss_cons (ds_putO 2 hr.u1 (pv 2) (de_v 3) (de_callG a.k_1010 tk hr rfl T.g_1010 T.f_1010.kp T.n_1010 (da_cons (de_sub_ (de_o (de_v 1)) (de_o de_int)) da_nil) (ALen.cons ALen.nil))) (dss_settle 2 (dss_cons (ds_appP (pe_bm PySem.F.plainAttrs_list PySem.F.slot_list_append PySem.F.type_list_append mt_append (de_v 0) (pa_cons (de_v 2) pa_nil))) (dss_one (ds_ret (de_v 4)))))) dss_nil) (dss_cons (ds_if (dt_not (dt_tru (de_o (de_v 4)))) (dss_one (ds_ret (de_tup (da_cons de_str (da_cons (de_v 3) da_nil)) ((ALen.cons (ALen.cons ALen.nil)).line (by decide))))) dss_nil) (dss_cons (ds_if (dt_eq hr.units (de_o (de_sub_ (de_o (de_v 1)) (de_o de_int))) (de_o de_str)) (dss_cons (ds_popO (i := 5) 2 sc_1012.nd rfl (by first | exact Or.inl rfl | exact Or.inr rfl) (pv 2) (de_v 3) ⟨rfl, rfl, rfl, rfl⟩) (dss_settle 2 (dss_cons (ds_appP (pe_bm PySem.F.plainAttrs_list PySem.F.slot_list_append PySem.F.type_list_append mt_append (de_v 0) (pa_cons (de_v 2) pa_nil))) (dss_one (ds_ret (de_v 5)))))) dss_nil) (dss_cons (ds_if (dt_eq hr.units (de_o (de_callG a.k_1007 tk hr rfl T.g_1007 T.f_1007.kp T.n_1007 (da_cons (de_subA hr.u1 (do_v 2) (de_o (de_v 3)) (de_sub_ (do_v 2) (de_o (de_v 3))) (fun _ _ => rfl)) (da_cons (de_sub_ (de_o (de_v 1)) (de_o de_int)) da_nil)) (ALen.cons (ALen.cons ALen.nil)))) (df_o (df_lst da_nil ((ALen.nil).line (by decide))))) (dss_one (ds_ret (de_tup (da_cons de_str (da_cons (de_sub_ (de_o (de_v 1)) (de_o de_int)) da_nil)) ((ALen.cons (ALen.cons ALen.nil)).line (by decide))))) dss_nil) (dss_cons (ds_putO 2 hr.u1 (pv 2) (de_v 3) (de_callG a.k_1010 tk hr rfl T.g_1010 T.f_1010.kp T.n_1010 (da_cons (de_callG a.k_1008 tk hr rfl T.g_1008 T.f_1008.kp T.n_1008 (da_cons (de_subA hr.u1 (do_v 2) (de_o (de_v 3)) (de_sub_ (do_v 2) (de_o (de_v 3))) (fun _ _ => rfl)) (da_cons (de_sub_ (de_o (de_v 1)) (de_o de_int)) (da_cons (de_sub_ (de_o (de_v 1)) (de_o de_int)) da_nil))) (ALen.cons (ALen.cons (ALen.cons ALen.nil)))) da_nil) (ALen.cons ALen.nil))) (dss_settle 2 (dss_cons (ds_appP (pe_bm PySem.F.plainAttrs_list PySem.F.slot_list_append PySem.F.type_list_append mt_append (de_v 0) (pa_cons (de_v 2) pa_nil))) (dss_one (ds_ret de_bl))))))))))))))
/-- _law_call -/
theorem W_1013 (T : Top P K mg cls A FD) (a : All P w K mg base cls A FD n R) : FnG P w K mg base (2 * n + 1 + 1) (A 1013) (FD 1013) ["_law_book", "_law_deed_here"] (spD ⟨K, cls⟩ 2 (B_1013 R)) :=
  defG_ok T.f_1013 sc_1013 fun cdv A' outer s H E hr => by
    have tk := takes_of (X := cxOf (L2.CX P w) P w K mg base N_1013 "_law_call" (defScope s_1013) (A 1013) cdv A' outer s H E) rfl rfl rfl rfl
    have hr1 := hr
    have hr := hr1.less (show 2 * n ≤ 2 * n + 1 by omega)
    exact (dss_cons (ds_if (dt_eq hr.units (de_o (de_sub_ (de_o (de_v 1)) (de_o de_int))) (de_o de_str)) (dss_one (ds_ret (de_meth0 (c := 22) T.cb_Book T.g_157 a.k_157 tk hr T.n_157 (de_v 0)))) dss_nil) (dss_cons (ds_if (dt_eq hr.units (de_o (de_sub_ (de_o (de_v 1)) (de_o de_int))) (de_o de_str)) (dss_one (ds_ret (de_meth (c := 22) T.cb_Book T.g_154 a.k_154 tk hr T.n_154 (de_v 0) (da_cons (de_sub_ (de_o (de_v 1)) (de_o de_int)) (da_cons (de_sub_ (de_o (de_v 1)) (de_o de_int)) da_nil)) (ALen.cons (ALen.cons ALen.nil))))) dss_nil) (dss_cons (ds_if (dt_eq hr.units (de_o (de_sub_ (de_o (de_v 1)) (de_o de_int))) (de_o de_str)) (dss_one (ds_ret (de_meth (c := 22) T.cb_Book T.g_155 a.k_155 tk hr T.n_155 (de_v 0) (da_cons (de_sub_ (de_o (de_v 1)) (de_o de_int)) da_nil) (ALen.cons ALen.nil)))) dss_nil) (dss_one (ds_ret (de_meth (c := 22) T.cb_Book T.g_156 a.k_156 tk hr T.n_156 (de_v 0) (da_cons (de_sub_ (de_o (de_v 1)) (de_o de_int)) (da_cons (de_sub_ (de_o (de_v 1)) (de_o de_int)) (da_cons (de_sub_ (de_o (de_v 1)) (de_o de_int)) da_nil))) (ALen.cons (ALen.cons (ALen.cons ALen.nil)))))))))
/-- _law_told -/
theorem W_1014 (T : Top P K mg cls A FD) (a : All P w K mg base cls A FD n R) : FnG P w K mg base (2 * n + 1 + 1) (A 1014) (FD 1014) ["_law_book", "_law_deed_here"] (spD ⟨K, cls⟩ 2 (B_1014 R)) :=
  defG_ok T.f_1014 sc_1014 fun cdv A' outer s H E hr => by
    have tk := takes_of (X := cxOf (L2.CX P w) P w K mg base N_1014 "_law_told" (defScope s_1014) (A 1014) cdv A' outer s H E) rfl rfl rfl rfl
    have hr1 := hr
    have hr := hr1.less (show 2 * n ≤ 2 * n + 1 by omega)
    exact (dss_one (ds_try_named rfl rfl sc_1014.nd tk (CatchOk.cons (CX := cls 11) (i := 2) rfl rfl ⟨rfl, by decide, .inl T.m_NoSuchKey⟩ (fx_NoSuchKey_ok T) (fun a_ oe_ pn_ cls_ su => (dss_one (ds_ret (de_tup (da_cons de_str (da_cons (de_xf su 2 (gx_key_ok T) (pv 2)) da_nil)) ((ALen.cons (ALen.cons ALen.nil)).line (by decide)))))) (CatchOk.cons (CX := cls 10) (i := 2) rfl rfl ⟨rfl, by decide, .inl T.m_NoSuchPlace⟩ (fx_NoSuchPlace_ok T) (fun a_ oe_ pn_ cls_ su => (dss_one (ds_ret (de_tup (da_cons de_str (da_cons (de_xf su 2 (gx_path_ok T) (pv 2)) da_nil)) ((ALen.cons (ALen.cons ALen.nil)).line (by decide)))))) CatchOk.nil)) (fun W pn xe tk hp => (dss_one (ds_ret (de_callG a.k_1013 tk hr rfl T.g_1013 T.f_1013.kp T.n_1013 (da_cons (de_v 0) (da_cons (de_v 1) da_nil)) (ALen.cons (ALen.cons ALen.nil))))))))
/-- law -/
theorem W_1015 (T : Top P K mg cls A FD) (a : All P w K mg base cls A FD n R) : FnG P w K mg base (2 * n + 1 + 1) (A 1015) (FD 1015) ["_law_script"] (spD ⟨K, cls⟩ 1 (B_1015 R)) :=
  defG_ok T.f_1015 sc_1015 fun cdv A' outer s H E hr => by
    have tk := takes_of (X := cxOf (L2.CX P w) P w K mg base N_1015 "law" (defScope s_1015) (A 1015) cdv A' outer s H E) rfl rfl rfl rfl
    have hr1 := hr
    have hr := hr1.less (show 2 * n ≤ 2 * n + 1 by omega)
    exact (dss_cons (ds_set (i := 1) sc_1015.nd rfl (by first | exact Or.inl rfl | exact Or.inr rfl) (de_callG a.k_1002 tk hr rfl T.g_1002 T.f_1002.kp T.n_1002 (da_cons (de_v 0) (da_cons de_int (da_cons de_int da_nil))) (ALen.cons (ALen.cons (ALen.cons ALen.nil))))) (dss_cons (ds_set (i := 2) sc_1015.nd rfl (by first | exact Or.inl rfl | exact Or.inr rfl) (de_make0 (c := 22) T.mk_Book a.k_152 tk hr1 rfl T.m_Book T.n_152)) (dss_cons (ds_set (i := 3) sc_1015.nd rfl (by first | exact Or.inl rfl | exact Or.inr rfl) (de_box (df_lst (da_cons (df_e df_dct0) da_nil) ((ALen.cons ALen.nil).line (by decide))))) (dss_cons (ds_for (passes_of rfl) rfl (di_r1 rfl T.b_range de_int) (pg_name (i := 4) sc_1015.nd rfl (by first | exact Or.inl rfl | exact Or.inr rfl)) (dss_cons (ds_set (i := 5) sc_1015.nd rfl (by first | exact Or.inl rfl | exact Or.inr rfl) (de_callG a.k_1011 tk hr rfl T.g_1011 T.f_1011.kp T.n_1011 (da_cons (de_v 1) (da_cons (de_sub_ (de_o (de_v 3)) (de_o (de_neg (de_o de_int)))) da_nil)) (ALen.cons (ALen.cons ALen.nil)))) (dss_cons (ds_set (i := 6) sc_1015.nd rfl (by first | exact Or.inl rfl | exact Or.inr rfl) (de_callG a.k_1012 tk hr rfl T.g_1012 T.f_1012.kp T.n_1012 (da_cons (de_v 3) (da_cons (de_v 5) da_nil)) (ALen.cons (ALen.cons ALen.nil)))) (dss_cons (ds_if (dt_not (dt_tru (de_o (de_callG a.k_1004 tk hr rfl T.g_1004 T.f_1004.kp T.n_1004 (da_cons (de_callG a.k_1014 tk hr rfl T.g_1014 T.f_1014.kp T.n_1014 (da_cons (de_v 2) (da_cons (de_v 5) da_nil)) (ALen.cons (ALen.cons ALen.nil))) (da_cons (de_v 6) da_nil)) (ALen.cons (ALen.cons ALen.nil)))))) (dss_one (ds_ret de_bl)) dss_nil) (dss_cons (ds_set (i := 7) sc_1015.nd rfl (by first | exact Or.inl rfl | exact Or.inr rfl) (de_meth0 (c := 22) T.cb_Book T.g_153 a.k_153 tk hr T.n_153 (de_v 2))) (dss_cons (ds_if (dw_t (dw_or (dt_not (dt_tru (de_o (de_isi rfl T.b_isinstance rfl T.b_dict (by decide +kernel) (de_o (de_v 7)))))) (dw_or1 (dt_not (dt_tru (de_o (de_callG a.k_1004 tk hr rfl T.g_1004 T.f_1004.kp T.n_1004 (da_cons (df_e (df_sorted rfl T.b_sorted rfl (de_o (df_e (df_listA rfl T.b_list rfl (de_o (de_v 7))))))) (da_cons (df_e (df_sorted rfl T.b_sorted rfl (de_o (df_e (df_listA rfl T.b_list rfl (de_o (de_sub_ (de_o (de_v 3)) (de_o (de_neg (de_o de_int)))))))))) da_nil)) (ALen.cons (ALen.cons ALen.nil))))))))) (dss_one (ds_ret de_bl)) dss_nil) (dss_cons (ds_forKL 3 (passes_of rfl) rfl (pg_name (i := 8) sc_1015.nd rfl (by first | exact Or.inl rfl | exact Or.inr rfl)) (dss_one (ds_if (dt_not (dt_tru (de_o (de_callG a.k_1004 tk hr rfl T.g_1004 T.f_1004.kp T.n_1004 (da_cons (de_subA hr.u1 (de_o (de_v 7)) (de_o (de_v 8)) (de_sub_ (de_o (de_v 7)) (de_o (de_v 8))) (fun _ _ => rfl)) (da_cons (de_subA hr.u1 (de_o (de_sub_ (de_o (de_v 3)) (de_o (de_neg (de_o de_int))))) (de_o (de_v 8)) (de_sub_ (de_o (de_sub_ (de_o (de_v 3)) (de_o (de_neg (de_o de_int))))) (de_o (de_v 8))) (fun _ _ => rfl)) da_nil)) (ALen.cons (ALen.cons ALen.nil)))))) (dss_one (ds_ret de_bl)) dss_nil))) (dss_cons (ds_putP hr.u1 (de_v 7) de_str (df_e (df_lst da_nil ((ALen.nil).line (by decide))))) (dss_one (ds_pop2P (de_v 7) de_str de_non ⟨rfl, rfl, rfl, rfl⟩)))))))))) (dss_one (ds_ret de_bl))))))
theorem all (T : Top P K mg cls A FD) : ∀ n, All P w K mg base cls A FD n (run n)
  | 0 => ⟨fnG_stuck fun _ _ => rfl, fnG_stuck fun _ _ => rfl, fnG_stuck fun _ _ => rfl, fnG_stuck fun _ _ => rfl, fnG_stuck fun _ _ => rfl, fnG_stuck fun _ _ => rfl, fnG_stuck fun _ _ => rfl, fnG_stuck fun _ _ => rfl, fnG_stuck fun _ _ => rfl, fnG_stuck fun _ _ => rfl, fnG_stuck fun _ _ => rfl, fnG_stuck fun _ _ => rfl, fnG_stuck fun _ _ => rfl, fnG_stuck fun _ _ => rfl, fnG_stuck fun _ _ => rfl, fnG_stuck fun _ _ => rfl, fnG_stuck fun _ _ => rfl, fnG_stuck fun _ _ => rfl, fnG_stuck fun _ _ => rfl, fnG_stuck fun _ _ => rfl, fnG_stuck fun _ _ => rfl, fnG_stuck fun _ _ => rfl, fnG_stuck fun _ _ => rfl, fnG_stuck fun _ _ => rfl, fnG_stuck fun _ _ => rfl, fnG_stuck fun _ _ => rfl, fnG_stuck fun _ _ => rfl, fnG_stuck fun _ _ => rfl, fnG_stuck fun _ _ => rfl, fnG_stuck fun _ _ => rfl⟩
  | n + 1 => ⟨W_1 T (all T n), W_2 T (all T n), W_4 T (all T n), W_5 T (all T n), W_148 T (all T n), W_149 T (all T n), W_150 T (all T n), W_151 T (all T n), W_152 T (all T n), W_153 T (all T n), W_154 T (all T n), W_155 T (all T n), W_156 T (all T n), W_157 T (all T n), W_1000 T (all T n), W_1001 T (all T n), W_1002 T (all T n), W_1003 T (all T n), W_1004 T (all T n), W_1005 T (all T n), W_1006 T (all T n), W_1007 T (all T n), W_1008 T (all T n), W_1009 T (all T n), W_1010 T (all T n), W_1011 T (all T n), W_1012 T (all T n), W_1013 T (all T n), W_1014 T (all T n), W_1015 T (all T n)⟩
end
theorem all_mk {l : PySem.W.OpenLaw} {w : World} {K : PySem.W.Frag} {h : Heap} {mg : Str → Option Value} {fa : Addr} (X : K.In h) (G : h.Ns mainGlobals mg) (hfa : mg "law" = some (.ref fa))
    {f1 : Addr} {od1 an1 : Option Addr} {sl1 : Array (Option Value)} {oc1 kV1 dc1 pm1 cd1 ct1 : Value}
    (a1 : PySem.W.nsIn K mainGlobals "cases_of" = some (some (.ref f1))) (l1 : K.lookup f1 = some ⟨oc1, od1, .func (PySem.W.fnOf "cases_of" "cases_of" (defArgs s_1) (defBody s_1) (defScope s_1) .none kV1 dc1 pm1 an1 cd1 ct1), sl1⟩) (c1 : PySem.W.codeIn K cd1 "cases_of" = true) (k1 : PySem.W.keepIn K (.ref f1) = true)
    {f2 : Addr} {od2 an2 : Option Addr} {sl2 : Array (Option Value)} {oc2 kV2 dc2 pm2 cd2 ct2 : Value}
    (a2 : PySem.W.nsIn K mainGlobals "other_of" = some (some (.ref f2))) (l2 : K.lookup f2 = some ⟨oc2, od2, .func (PySem.W.fnOf "other_of" "other_of" (defArgs s_2) (defBody s_2) (defScope s_2) .none kV2 dc2 pm2 an2 cd2 ct2), sl2⟩) (c2 : PySem.W.codeIn K cd2 "other_of" = true) (k2 : PySem.W.keepIn K (.ref f2) = true)
    {f4 : Addr} {od4 an4 : Option Addr} {sl4 : Array (Option Value)} {oc4 kV4 dc4 pm4 cd4 ct4 : Value}
    (a4 : PySem.W.nsIn K mainGlobals "plain_node" = some (some (.ref f4))) (l4 : K.lookup f4 = some ⟨oc4, od4, .func (PySem.W.fnOf "plain_node" "plain_node" (defArgs s_4) (defBody s_4) (defScope s_4) .none kV4 dc4 pm4 an4 cd4 ct4), sl4⟩) (c4 : PySem.W.codeIn K cd4 "plain_node" = true) (k4 : PySem.W.keepIn K (.ref f4) = true)
    {f5 : Addr} {od5 an5 : Option Addr} {sl5 : Array (Option Value)} {oc5 kV5 dc5 pm5 cd5 ct5 : Value}
    (a5 : PySem.W.nsIn K mainGlobals "plain" = some (some (.ref f5))) (l5 : K.lookup f5 = some ⟨oc5, od5, .func (PySem.W.fnOf "plain" "plain" (defArgs s_5) (defBody s_5) (defScope s_5) .none kV5 dc5 pm5 an5 cd5 ct5), sl5⟩) (c5 : PySem.W.codeIn K cd5 "plain" = true) (k5 : PySem.W.keepIn K (.ref f5) = true)
    {f148 : Addr} {od148 an148 : Option Addr} {sl148 : Array (Option Value)} {oc148 kV148 dc148 pm148 cd148 ct148 : Value}
    (a148 : PySem.W.nsIn K mainGlobals "case_at" = some (some (.ref f148))) (l148 : K.lookup f148 = some ⟨oc148, od148, .func (PySem.W.fnOf "case_at" "case_at" (defArgs s_148) (defBody s_148) (defScope s_148) .none kV148 dc148 pm148 an148 cd148 ct148), sl148⟩) (c148 : PySem.W.codeIn K cd148 "case_at" = true) (k148 : PySem.W.keepIn K (.ref f148) = true)
    {f149 : Addr} {od149 an149 : Option Addr} {sl149 : Array (Option Value)} {oc149 kV149 dc149 pm149 cd149 ct149 : Value}
    (a149 : PySem.W.nsIn K mainGlobals "message_at" = some (some (.ref f149))) (l149 : K.lookup f149 = some ⟨oc149, od149, .func (PySem.W.fnOf "message_at" "message_at" (defArgs s_149) (defBody s_149) (defScope s_149) .none kV149 dc149 pm149 an149 cd149 ct149), sl149⟩) (c149 : PySem.W.codeIn K cd149 "message_at" = true) (k149 : PySem.W.keepIn K (.ref f149) = true)
    {f150 : Addr} {od150 an150 : Option Addr} {sl150 : Array (Option Value)} {oc150 kV150 dc150 pm150 cd150 ct150 : Value}
    (a150 : PySem.W.nsIn K mainGlobals "with_case" = some (some (.ref f150))) (l150 : K.lookup f150 = some ⟨oc150, od150, .func (PySem.W.fnOf "with_case" "with_case" (defArgs s_150) (defBody s_150) (defScope s_150) .none kV150 dc150 pm150 an150 cd150 ct150), sl150⟩) (c150 : PySem.W.codeIn K cd150 "with_case" = true) (k150 : PySem.W.keepIn K (.ref f150) = true)
    {f151 : Addr} {od151 an151 : Option Addr} {sl151 : Array (Option Value)} {oc151 kV151 dc151 pm151 cd151 ct151 : Value}
    (a151 : PySem.W.nsIn K mainGlobals "replaced" = some (some (.ref f151))) (l151 : K.lookup f151 = some ⟨oc151, od151, .func (PySem.W.fnOf "replaced" "replaced" (defArgs s_151) (defBody s_151) (defScope s_151) .none kV151 dc151 pm151 an151 cd151 ct151), sl151⟩) (c151 : PySem.W.codeIn K cd151 "replaced" = true) (k151 : PySem.W.keepIn K (.ref f151) = true)
    {f152 : Addr} {od152 an152 : Option Addr} {sl152 : Array (Option Value)} {oc152 kV152 dc152 pm152 cd152 ct152 : Value}
    {CBook : Addr} (a_Book : PySem.W.nsIn K mainGlobals "Book" = some (some (.ref CBook))) (pg_Book : PySem.W.plainGet K CBook Str.empty = true) (hd_Book : PySem.W.hasDictIn K CBook = true) (po_Book : PySem.W.plainOver K CBook = true) (sa_Book : PySem.W.findIn K (.ref CBook) "__setattr__" = some (some (.builtin "object.__setattr__"))) (mk_Book : PySem.W.makesIn K CBook = true) (kp_Book : PySem.W.keepIn K (.ref CBook) = true)
    (a152 : PySem.W.findIn K (.ref CBook) "__init__" = some (some (.ref f152))) (i152 : PySem.W.isFn K (.ref f152) = true) (l152 : K.lookup f152 = some ⟨oc152, od152, .func (PySem.W.fnOf "__init__" "Book.__init__" (defArgs s_152) (defBody s_152) (defScope s_152) .none kV152 dc152 pm152 an152 cd152 ct152), sl152⟩) (c152 : PySem.W.codeIn K cd152 "Book.__init__" = true) (k152 : PySem.W.keepIn K (.ref f152) = true)
    {f153 : Addr} {od153 an153 : Option Addr} {sl153 : Array (Option Value)} {oc153 kV153 dc153 pm153 cd153 ct153 : Value}
    (a153 : PySem.W.findIn K (.ref CBook) "messages" = some (some (.ref f153))) (i153 : PySem.W.isFn K (.ref f153) = true) (l153 : K.lookup f153 = some ⟨oc153, od153, .func (PySem.W.fnOf "messages" "Book.messages" (defArgs s_153) (defBody s_153) (defScope s_153) .none kV153 dc153 pm153 an153 cd153 ct153), sl153⟩) (c153 : PySem.W.codeIn K cd153 "Book.messages" = true) (k153 : PySem.W.keepIn K (.ref f153) = true)
    {f154 : Addr} {od154 an154 : Option Addr} {sl154 : Array (Option Value)} {oc154 kV154 dc154 pm154 cd154 ct154 : Value}
    (a154 : PySem.W.findIn K (.ref CBook) "put" = some (some (.ref f154))) (i154 : PySem.W.isFn K (.ref f154) = true) (l154 : K.lookup f154 = some ⟨oc154, od154, .func (PySem.W.fnOf "put" "Book.put" (defArgs s_154) (defBody s_154) (defScope s_154) .none kV154 dc154 pm154 an154 cd154 ct154), sl154⟩) (c154 : PySem.W.codeIn K cd154 "Book.put" = true) (k154 : PySem.W.keepIn K (.ref f154) = true)
    {f155 : Addr} {od155 an155 : Option Addr} {sl155 : Array (Option Value)} {oc155 kV155 dc155 pm155 cd155 ct155 : Value}
    (a155 : PySem.W.findIn K (.ref CBook) "drop" = some (some (.ref f155))) (i155 : PySem.W.isFn K (.ref f155) = true) (l155 : K.lookup f155 = some ⟨oc155, od155, .func (PySem.W.fnOf "drop" "Book.drop" (defArgs s_155) (defBody s_155) (defScope s_155) .none kV155 dc155 pm155 an155 cd155 ct155), sl155⟩) (c155 : PySem.W.codeIn K cd155 "Book.drop" = true) (k155 : PySem.W.keepIn K (.ref f155) = true)
    {f156 : Addr} {od156 an156 : Option Addr} {sl156 : Array (Option Value)} {oc156 kV156 dc156 pm156 cd156 ct156 : Value}
    (a156 : PySem.W.findIn K (.ref CBook) "change" = some (some (.ref f156))) (i156 : PySem.W.isFn K (.ref f156) = true) (l156 : K.lookup f156 = some ⟨oc156, od156, .func (PySem.W.fnOf "change" "Book.change" (defArgs s_156) (defBody s_156) (defScope s_156) .none kV156 dc156 pm156 an156 cd156 ct156), sl156⟩) (c156 : PySem.W.codeIn K cd156 "Book.change" = true) (k156 : PySem.W.keepIn K (.ref f156) = true)
    {f157 : Addr} {od157 an157 : Option Addr} {sl157 : Array (Option Value)} {oc157 kV157 dc157 pm157 cd157 ct157 : Value}
    (a157 : PySem.W.findIn K (.ref CBook) "undo" = some (some (.ref f157))) (i157 : PySem.W.isFn K (.ref f157) = true) (l157 : K.lookup f157 = some ⟨oc157, od157, .func (PySem.W.fnOf "undo" "Book.undo" (defArgs s_157) (defBody s_157) (defScope s_157) .none kV157 dc157 pm157 an157 cd157 ct157), sl157⟩) (c157 : PySem.W.codeIn K cd157 "Book.undo" = true) (k157 : PySem.W.keepIn K (.ref f157) = true)
    {f1000 : Addr} {od1000 an1000 : Option Addr} {sl1000 : Array (Option Value)} {oc1000 kV1000 dc1000 pm1000 cd1000 ct1000 : Value}
    (a1000 : PySem.W.nsIn K mainGlobals "_law_cell" = some (some (.ref f1000))) (l1000 : K.lookup f1000 = some ⟨oc1000, od1000, .func (PySem.W.fnOf "_law_cell" "_law_cell" (defArgs s_1000) (defBody s_1000) (defScope s_1000) .none kV1000 dc1000 pm1000 an1000 cd1000 ct1000), sl1000⟩) (c1000 : PySem.W.codeIn K cd1000 "_law_cell" = true) (k1000 : PySem.W.keepIn K (.ref f1000) = true)
    {f1001 : Addr} {od1001 an1001 : Option Addr} {sl1001 : Array (Option Value)} {oc1001 kV1001 dc1001 pm1001 cd1001 ct1001 : Value}
    (a1001 : PySem.W.nsIn K mainGlobals "_law_row" = some (some (.ref f1001))) (l1001 : K.lookup f1001 = some ⟨oc1001, od1001, .func (PySem.W.fnOf "_law_row" "_law_row" (defArgs s_1001) (defBody s_1001) (defScope s_1001) .none kV1001 dc1001 pm1001 an1001 cd1001 ct1001), sl1001⟩) (c1001 : PySem.W.codeIn K cd1001 "_law_row" = true) (k1001 : PySem.W.keepIn K (.ref f1001) = true)
    {f1002 : Addr} {od1002 an1002 : Option Addr} {sl1002 : Array (Option Value)} {oc1002 kV1002 dc1002 pm1002 cd1002 ct1002 : Value}
    (a1002 : PySem.W.nsIn K mainGlobals "_law_box" = some (some (.ref f1002))) (l1002 : K.lookup f1002 = some ⟨oc1002, od1002, .func (PySem.W.fnOf "_law_box" "_law_box" (defArgs s_1002) (defBody s_1002) (defScope s_1002) .none kV1002 dc1002 pm1002 an1002 cd1002 ct1002), sl1002⟩) (c1002 : PySem.W.codeIn K cd1002 "_law_box" = true) (k1002 : PySem.W.keepIn K (.ref f1002) = true)
    {f1003 : Addr} {od1003 an1003 : Option Addr} {sl1003 : Array (Option Value)} {oc1003 kV1003 dc1003 pm1003 cd1003 ct1003 : Value}
    (a1003 : PySem.W.nsIn K mainGlobals "_law_draw" = some (some (.ref f1003))) (l1003 : K.lookup f1003 = some ⟨oc1003, od1003, .func (PySem.W.fnOf "_law_draw" "_law_draw" (defArgs s_1003) (defBody s_1003) (defScope s_1003) .none kV1003 dc1003 pm1003 an1003 cd1003 ct1003), sl1003⟩) (c1003 : PySem.W.codeIn K cd1003 "_law_draw" = true) (k1003 : PySem.W.keepIn K (.ref f1003) = true)
    {f1004 : Addr} {od1004 an1004 : Option Addr} {sl1004 : Array (Option Value)} {oc1004 kV1004 dc1004 pm1004 cd1004 ct1004 : Value}
    (a1004 : PySem.W.nsIn K mainGlobals "_law_same" = some (some (.ref f1004))) (l1004 : K.lookup f1004 = some ⟨oc1004, od1004, .func (PySem.W.fnOf "_law_same" "_law_same" (defArgs s_1004) (defBody s_1004) (defScope s_1004) .none kV1004 dc1004 pm1004 an1004 cd1004 ct1004), sl1004⟩) (c1004 : PySem.W.codeIn K cd1004 "_law_same" = true) (k1004 : PySem.W.keepIn K (.ref f1004) = true)
    {f1005 : Addr} {od1005 an1005 : Option Addr} {sl1005 : Array (Option Value)} {oc1005 kV1005 dc1005 pm1005 cd1005 ct1005 : Value}
    (a1005 : PySem.W.nsIn K mainGlobals "_law_message" = some (some (.ref f1005))) (l1005 : K.lookup f1005 = some ⟨oc1005, od1005, .func (PySem.W.fnOf "_law_message" "_law_message" (defArgs s_1005) (defBody s_1005) (defScope s_1005) .none kV1005 dc1005 pm1005 an1005 cd1005 ct1005), sl1005⟩) (c1005 : PySem.W.codeIn K cd1005 "_law_message" = true) (k1005 : PySem.W.keepIn K (.ref f1005) = true)
    {f1006 : Addr} {od1006 an1006 : Option Addr} {sl1006 : Array (Option Value)} {oc1006 kV1006 dc1006 pm1006 cd1006 ct1006 : Value}
    (a1006 : PySem.W.nsIn K mainGlobals "_law_paths" = some (some (.ref f1006))) (l1006 : K.lookup f1006 = some ⟨oc1006, od1006, .func (PySem.W.fnOf "_law_paths" "_law_paths" (defArgs s_1006) (defBody s_1006) (defScope s_1006) .none kV1006 dc1006 pm1006 an1006 cd1006 ct1006), sl1006⟩) (c1006 : PySem.W.codeIn K cd1006 "_law_paths" = true) (k1006 : PySem.W.keepIn K (.ref f1006) = true)
    {f1007 : Addr} {od1007 an1007 : Option Addr} {sl1007 : Array (Option Value)} {oc1007 kV1007 dc1007 pm1007 cd1007 ct1007 : Value}
    (a1007 : PySem.W.nsIn K mainGlobals "_law_at" = some (some (.ref f1007))) (l1007 : K.lookup f1007 = some ⟨oc1007, od1007, .func (PySem.W.fnOf "_law_at" "_law_at" (defArgs s_1007) (defBody s_1007) (defScope s_1007) .none kV1007 dc1007 pm1007 an1007 cd1007 ct1007), sl1007⟩) (c1007 : PySem.W.codeIn K cd1007 "_law_at" = true) (k1007 : PySem.W.keepIn K (.ref f1007) = true)
    {f1008 : Addr} {od1008 an1008 : Option Addr} {sl1008 : Array (Option Value)} {oc1008 kV1008 dc1008 pm1008 cd1008 ct1008 : Value}
    (a1008 : PySem.W.nsIn K mainGlobals "_law_put" = some (some (.ref f1008))) (l1008 : K.lookup f1008 = some ⟨oc1008, od1008, .func (PySem.W.fnOf "_law_put" "_law_put" (defArgs s_1008) (defBody s_1008) (defScope s_1008) .none kV1008 dc1008 pm1008 an1008 cd1008 ct1008), sl1008⟩) (c1008 : PySem.W.codeIn K cd1008 "_law_put" = true) (k1008 : PySem.W.keepIn K (.ref f1008) = true)
    {f1009 : Addr} {od1009 an1009 : Option Addr} {sl1009 : Array (Option Value)} {oc1009 kV1009 dc1009 pm1009 cd1009 ct1009 : Value}
    (a1009 : PySem.W.nsIn K mainGlobals "_law_path" = some (some (.ref f1009))) (l1009 : K.lookup f1009 = some ⟨oc1009, od1009, .func (PySem.W.fnOf "_law_path" "_law_path" (defArgs s_1009) (defBody s_1009) (defScope s_1009) .none kV1009 dc1009 pm1009 an1009 cd1009 ct1009), sl1009⟩) (c1009 : PySem.W.codeIn K cd1009 "_law_path" = true) (k1009 : PySem.W.keepIn K (.ref f1009) = true)
    {f1010 : Addr} {od1010 an1010 : Option Addr} {sl1010 : Array (Option Value)} {oc1010 kV1010 dc1010 pm1010 cd1010 ct1010 : Value}
    (a1010 : PySem.W.nsIn K mainGlobals "_law_plain" = some (some (.ref f1010))) (l1010 : K.lookup f1010 = some ⟨oc1010, od1010, .func (PySem.W.fnOf "_law_plain" "_law_plain" (defArgs s_1010) (defBody s_1010) (defScope s_1010) .none kV1010 dc1010 pm1010 an1010 cd1010 ct1010), sl1010⟩) (c1010 : PySem.W.codeIn K cd1010 "_law_plain" = true) (k1010 : PySem.W.keepIn K (.ref f1010) = true)
    {f1011 : Addr} {od1011 an1011 : Option Addr} {sl1011 : Array (Option Value)} {oc1011 kV1011 dc1011 pm1011 cd1011 ct1011 : Value}
    (a1011 : PySem.W.nsIn K mainGlobals "_law_deed" = some (some (.ref f1011))) (l1011 : K.lookup f1011 = some ⟨oc1011, od1011, .func (PySem.W.fnOf "_law_deed" "_law_deed" (defArgs s_1011) (defBody s_1011) (defScope s_1011) .none kV1011 dc1011 pm1011 an1011 cd1011 ct1011), sl1011⟩) (c1011 : PySem.W.codeIn K cd1011 "_law_deed" = true) (k1011 : PySem.W.keepIn K (.ref f1011) = true)
    {f1012 : Addr} {od1012 an1012 : Option Addr} {sl1012 : Array (Option Value)} {oc1012 kV1012 dc1012 pm1012 cd1012 ct1012 : Value}
    (a1012 : PySem.W.nsIn K mainGlobals "_law_done" = some (some (.ref f1012))) (l1012 : K.lookup f1012 = some ⟨oc1012, od1012, .func (PySem.W.fnOf "_law_done" "_law_done" (defArgs s_1012) (defBody s_1012) (defScope s_1012) .none kV1012 dc1012 pm1012 an1012 cd1012 ct1012), sl1012⟩) (c1012 : PySem.W.codeIn K cd1012 "_law_done" = true) (k1012 : PySem.W.keepIn K (.ref f1012) = true)
    {f1013 : Addr} {od1013 an1013 : Option Addr} {sl1013 : Array (Option Value)} {oc1013 kV1013 dc1013 pm1013 cd1013 ct1013 : Value}
    (a1013 : PySem.W.nsIn K mainGlobals "_law_call" = some (some (.ref f1013))) (l1013 : K.lookup f1013 = some ⟨oc1013, od1013, .func (PySem.W.fnOf "_law_call" "_law_call" (defArgs s_1013) (defBody s_1013) (defScope s_1013) .none kV1013 dc1013 pm1013 an1013 cd1013 ct1013), sl1013⟩) (c1013 : PySem.W.codeIn K cd1013 "_law_call" = true) (k1013 : PySem.W.keepIn K (.ref f1013) = true)
    {f1014 : Addr} {od1014 an1014 : Option Addr} {sl1014 : Array (Option Value)} {oc1014 kV1014 dc1014 pm1014 cd1014 ct1014 : Value}
    (a1014 : PySem.W.nsIn K mainGlobals "_law_told" = some (some (.ref f1014))) (l1014 : K.lookup f1014 = some ⟨oc1014, od1014, .func (PySem.W.fnOf "_law_told" "_law_told" (defArgs s_1014) (defBody s_1014) (defScope s_1014) .none kV1014 dc1014 pm1014 an1014 cd1014 ct1014), sl1014⟩) (c1014 : PySem.W.codeIn K cd1014 "_law_told" = true) (k1014 : PySem.W.keepIn K (.ref f1014) = true)
    {f1015 : Addr} {od1015 an1015 : Option Addr} {sl1015 : Array (Option Value)} {oc1015 kV1015 dc1015 pm1015 cd1015 ct1015 : Value}
    (a1015 : PySem.W.nsIn K mainGlobals "law" = some (some (.ref f1015))) (l1015 : K.lookup f1015 = some ⟨oc1015, od1015, .func (PySem.W.fnOf "law" "law" (defArgs s_1015) (defBody s_1015) (defScope s_1015) .none kV1015 dc1015 pm1015 an1015 cd1015 ct1015), sl1015⟩) (c1015 : PySem.W.codeIn K cd1015 "law" = true) (k1015 : PySem.W.keepIn K (.ref f1015) = true)
    (na_Book_past : PySem.W.findIn K (.ref CBook) "past" = some none)
    {CNoSuchPlace : Addr} (a_NoSuchPlace : PySem.W.nsIn K mainGlobals "NoSuchPlace" = some (some (.ref CNoSuchPlace)))
    {CNoSuchKey : Addr} (a_NoSuchKey : PySem.W.nsIn K mainGlobals "NoSuchKey" = some (some (.ref CNoSuchKey)))
    {nmNoSuchPlace qNoSuchPlace : Str} {NNoSuchPlace : Addr} {bsNoSuchPlace bmNoSuchPlace : List Value} {snNoSuchPlace : List Str} {subNoSuchPlace : List Value} {abNoSuchPlace : Bool} {colNoSuchPlace : Option Bool} {ddNoSuchPlace : Option Addr} {k0NoSuchPlace k1NoSuchPlace k2NoSuchPlace k3NoSuchPlace k5NoSuchPlace : Option Value}
    (cl_NoSuchPlace : K.lookup CNoSuchPlace = some (excClassObj nmNoSuchPlace qNoSuchPlace CNoSuchPlace NNoSuchPlace bsNoSuchPlace bmNoSuchPlace true snNoSuchPlace subNoSuchPlace abNoSuchPlace colNoSuchPlace ddNoSuchPlace k0NoSuchPlace k1NoSuchPlace k2NoSuchPlace k3NoSuchPlace k5NoSuchPlace "ValueError.__new__")) (rv_NoSuchPlace : PySem.HandSPX.refsVE bmNoSuchPlace = true)
    {fINoSuchPlace ccNoSuchPlace cdaNoSuchPlace : Addr} {ocNoSuchPlace kVNoSuchPlace docNoSuchPlace pmNoSuchPlace ctNoSuchPlace : Value} {odNoSuchPlace anNoSuchPlace : Option Addr} {oslNoSuchPlace : Array (Option Value)}
    (iC_NoSuchPlace : PySem.W.findIn K (.ref CNoSuchPlace) "__init__" = some (some (.ref fINoSuchPlace))) (fn_NoSuchPlace : K.lookup fINoSuchPlace = some ⟨ocNoSuchPlace, odNoSuchPlace, .func (PySem.W.ksFn "__init__" "NoSuchPlace.__init__" (defArgs (clsSt (topS 2) 0)) (defBody (clsSt (topS 2) 0)) (defScope (clsSt (topS 2) 0)) .none kVNoSuchPlace docNoSuchPlace pmNoSuchPlace anNoSuchPlace (.ref cdaNoSuchPlace) ctNoSuchPlace ccNoSuchPlace), oslNoSuchPlace⟩) (cod_NoSuchPlace : PySem.W.codeIn K (.ref cdaNoSuchPlace) "NoSuchPlace.__init__" = true)
    (bd_NoSuchPlace : ∀ (s : Shared) (u v : Value), BindsTo s (PySem.W.ksFn "__init__" "NoSuchPlace.__init__" (defArgs (clsSt (topS 2) 0)) (defBody (clsSt (topS 2) 0)) (defScope (clsSt (topS 2) 0)) .none kVNoSuchPlace docNoSuchPlace pmNoSuchPlace anNoSuchPlace (.ref cdaNoSuchPlace) ctNoSuchPlace ccNoSuchPlace) ⟨[u, v], []⟩ [("self", u), ("path", v)])
    {cc1NoSuchPlace : Value} {cc2NoSuchPlace : Option Addr} {cc3NoSuchPlace : Array (Option Value)} (cell_NoSuchPlace : K.lookup ccNoSuchPlace = some ⟨cc1NoSuchPlace, cc2NoSuchPlace, .cell (some (.ref CNoSuchPlace)), cc3NoSuchPlace⟩)
    {cd1NoSuchPlace : Value} {cd2NoSuchPlace : Option Addr} {cd3NoSuchPlace : Array Value} {cd4NoSuchPlace : Array (Option Value)} {cd5NoSuchPlace : Str} {cd6NoSuchPlace : Tok} (code_NoSuchPlace : K.lookup cdaNoSuchPlace = some ⟨cd1NoSuchPlace, cd2NoSuchPlace, .fields cd3NoSuchPlace, cd4NoSuchPlace⟩) (v2_NoSuchPlace : cd3NoSuchPlace[2]? = some (.str cd5NoSuchPlace cd6NoSuchPlace)) (file_NoSuchPlace : ((l.prog.main.file : Str) == cd5NoSuchPlace) = true)
    (tx_NoSuchPlace : ErrSt (clsSt (topS 2) 0) "path" "path") (sa_NoSuchPlace : PySem.W.findIn K (.ref CNoSuchPlace) "__setattr__" = some (some (.builtin "object.__setattr__"))) (no_NoSuchPlace : PySem.W.findIn K (.ref CNoSuchPlace) "path" = some none) (tC_NoSuchPlace : PySem.W.typeIn K (.ref fINoSuchPlace) = some (.type "function"))
    (kC_NoSuchPlace : PySem.W.keepIn K (.ref CNoSuchPlace) = true) (ex_NoSuchPlace : PySem.W.subIn K (.ref CNoSuchPlace) (.type "BaseException") = some true) (ve_NoSuchPlace : PySem.W.subIn K (.ref CNoSuchPlace) (.type "ValueError") = some true) (ty_NoSuchPlace : PySem.W.typeIn K (.ref CNoSuchPlace) = some (.type "type"))
    (su_NoSuchPlace : PySem.W.ks_superIn K CNoSuchPlace CNoSuchPlace "__init__" = some (some (.builtin "ValueError.__init__"))) (mc_NoSuchPlace : PySem.W.mroIn K CNoSuchPlace (.ref CNoSuchPlace) = some true) (ic_NoSuchPlace : PySem.W.isClsIn K CNoSuchPlace = true)
    (hg_NoSuchPlace : PySem.W.findIn K (.ref CNoSuchPlace) "__getattribute__" = some (some (.builtin "BaseException.__getattribute__"))) (hk_NoSuchPlace : PySem.W.findIn K (.ref CNoSuchPlace) "__getattr__" = some none) (hd_NoSuchPlace : PySem.W.hasDictIn K CNoSuchPlace = true) (ha_NoSuchPlace : PySem.W.findIn K (.ref CNoSuchPlace) "__class__" = some (some (.builtin "object.__class__"))) (hm_NoSuchPlace : PySem.W.mroIn K CNoSuchPlace (.type "object") = some true)
    {nmNoSuchKey qNoSuchKey : Str} {NNoSuchKey : Addr} {bsNoSuchKey bmNoSuchKey : List Value} {snNoSuchKey : List Str} {subNoSuchKey : List Value} {abNoSuchKey : Bool} {colNoSuchKey : Option Bool} {ddNoSuchKey : Option Addr} {k0NoSuchKey k1NoSuchKey k2NoSuchKey k3NoSuchKey k5NoSuchKey : Option Value}
    (cl_NoSuchKey : K.lookup CNoSuchKey = some (excClassObj nmNoSuchKey qNoSuchKey CNoSuchKey NNoSuchKey bsNoSuchKey bmNoSuchKey true snNoSuchKey subNoSuchKey abNoSuchKey colNoSuchKey ddNoSuchKey k0NoSuchKey k1NoSuchKey k2NoSuchKey k3NoSuchKey k5NoSuchKey "ValueError.__new__")) (rv_NoSuchKey : PySem.HandSPX.refsVE bmNoSuchKey = true)
    {fINoSuchKey ccNoSuchKey cdaNoSuchKey : Addr} {ocNoSuchKey kVNoSuchKey docNoSuchKey pmNoSuchKey ctNoSuchKey : Value} {odNoSuchKey anNoSuchKey : Option Addr} {oslNoSuchKey : Array (Option Value)}
    (iC_NoSuchKey : PySem.W.findIn K (.ref CNoSuchKey) "__init__" = some (some (.ref fINoSuchKey))) (fn_NoSuchKey : K.lookup fINoSuchKey = some ⟨ocNoSuchKey, odNoSuchKey, .func (PySem.W.ksFn "__init__" "NoSuchKey.__init__" (defArgs (clsSt (topS 3) 0)) (defBody (clsSt (topS 3) 0)) (defScope (clsSt (topS 3) 0)) .none kVNoSuchKey docNoSuchKey pmNoSuchKey anNoSuchKey (.ref cdaNoSuchKey) ctNoSuchKey ccNoSuchKey), oslNoSuchKey⟩) (cod_NoSuchKey : PySem.W.codeIn K (.ref cdaNoSuchKey) "NoSuchKey.__init__" = true)
    (bd_NoSuchKey : ∀ (s : Shared) (u v : Value), BindsTo s (PySem.W.ksFn "__init__" "NoSuchKey.__init__" (defArgs (clsSt (topS 3) 0)) (defBody (clsSt (topS 3) 0)) (defScope (clsSt (topS 3) 0)) .none kVNoSuchKey docNoSuchKey pmNoSuchKey anNoSuchKey (.ref cdaNoSuchKey) ctNoSuchKey ccNoSuchKey) ⟨[u, v], []⟩ [("self", u), ("key", v)])
    {cc1NoSuchKey : Value} {cc2NoSuchKey : Option Addr} {cc3NoSuchKey : Array (Option Value)} (cell_NoSuchKey : K.lookup ccNoSuchKey = some ⟨cc1NoSuchKey, cc2NoSuchKey, .cell (some (.ref CNoSuchKey)), cc3NoSuchKey⟩)
    {cd1NoSuchKey : Value} {cd2NoSuchKey : Option Addr} {cd3NoSuchKey : Array Value} {cd4NoSuchKey : Array (Option Value)} {cd5NoSuchKey : Str} {cd6NoSuchKey : Tok} (code_NoSuchKey : K.lookup cdaNoSuchKey = some ⟨cd1NoSuchKey, cd2NoSuchKey, .fields cd3NoSuchKey, cd4NoSuchKey⟩) (v2_NoSuchKey : cd3NoSuchKey[2]? = some (.str cd5NoSuchKey cd6NoSuchKey)) (file_NoSuchKey : ((l.prog.main.file : Str) == cd5NoSuchKey) = true)
    (tx_NoSuchKey : ErrSt (clsSt (topS 3) 0) "key" "key") (sa_NoSuchKey : PySem.W.findIn K (.ref CNoSuchKey) "__setattr__" = some (some (.builtin "object.__setattr__"))) (no_NoSuchKey : PySem.W.findIn K (.ref CNoSuchKey) "key" = some none) (tC_NoSuchKey : PySem.W.typeIn K (.ref fINoSuchKey) = some (.type "function"))
    (kC_NoSuchKey : PySem.W.keepIn K (.ref CNoSuchKey) = true) (ex_NoSuchKey : PySem.W.subIn K (.ref CNoSuchKey) (.type "BaseException") = some true) (ve_NoSuchKey : PySem.W.subIn K (.ref CNoSuchKey) (.type "ValueError") = some true) (ty_NoSuchKey : PySem.W.typeIn K (.ref CNoSuchKey) = some (.type "type"))
    (su_NoSuchKey : PySem.W.ks_superIn K CNoSuchKey CNoSuchKey "__init__" = some (some (.builtin "ValueError.__init__"))) (mc_NoSuchKey : PySem.W.mroIn K CNoSuchKey (.ref CNoSuchKey) = some true) (ic_NoSuchKey : PySem.W.isClsIn K CNoSuchKey = true)
    (hg_NoSuchKey : PySem.W.findIn K (.ref CNoSuchKey) "__getattribute__" = some (some (.builtin "BaseException.__getattribute__"))) (hk_NoSuchKey : PySem.W.findIn K (.ref CNoSuchKey) "__getattr__" = some none) (hd_NoSuchKey : PySem.W.hasDictIn K CNoSuchKey = true) (ha_NoSuchKey : PySem.W.findIn K (.ref CNoSuchKey) "__class__" = some (some (.builtin "object.__class__"))) (hm_NoSuchKey : PySem.W.mroIn K CNoSuchKey (.type "object") = some true)
    (thp : PySem.W.nsIn K cStatics "thirdparty.any" = some none) (tops : (l.prog.main.scope.names.lookup ("super" : Str)).isSome = false) (hn : PySem.W.specialIn K (.builtin "object.__class__") "__get__" = some (some (.builtin "getset_descriptor.__get__"))) (ht : PySem.W.takesIn K (.builtin "object.__class__") = some true)
    (xb_NoSuchKey : PySem.W.subIn K (.ref CNoSuchKey) (.type "BaseException") = some true) (xt_NoSuchKey : PySem.W.typeIn K (.ref CNoSuchKey) = some (.type "type")) (xd_NoSuchKey : PySem.W.hasDictIn K CNoSuchKey = true)
    (xs_NoSuchKey_NoSuchPlace : PySem.W.subIn K (.ref CNoSuchPlace) (.ref CNoSuchKey) = some false) (xk_NoSuchKey_NoSuchPlace : PySem.W.kitOne K (.ref CNoSuchPlace) (.ref CNoSuchKey) = some false)
    (xs_NoSuchKey_NoSuchKey : PySem.W.subIn K (.ref CNoSuchKey) (.ref CNoSuchKey) = some true) (xk_NoSuchKey_NoSuchKey : PySem.W.kitOne K (.ref CNoSuchKey) (.ref CNoSuchKey) = some true)
    (xb_NoSuchPlace : PySem.W.subIn K (.ref CNoSuchPlace) (.type "BaseException") = some true) (xt_NoSuchPlace : PySem.W.typeIn K (.ref CNoSuchPlace) = some (.type "type")) (xd_NoSuchPlace : PySem.W.hasDictIn K CNoSuchPlace = true)
    (xs_NoSuchPlace_NoSuchPlace : PySem.W.subIn K (.ref CNoSuchPlace) (.ref CNoSuchPlace) = some true) (xk_NoSuchPlace_NoSuchPlace : PySem.W.kitOne K (.ref CNoSuchPlace) (.ref CNoSuchPlace) = some true)
    (xs_NoSuchPlace_NoSuchKey : PySem.W.subIn K (.ref CNoSuchKey) (.ref CNoSuchPlace) = some false) (xk_NoSuchPlace_NoSuchKey : PySem.W.kitOne K (.ref CNoSuchKey) (.ref CNoSuchPlace) = some false)
    (z_dict : PySem.W.nsIn K mainGlobals "dict" = some none)
    (z_int : PySem.W.nsIn K mainGlobals "int" = some none)
    (z_isinstance : PySem.W.nsIn K mainGlobals "isinstance" = some none)
    (z_len : PySem.W.nsIn K mainGlobals "len" = some none)
    (z_list : PySem.W.nsIn K mainGlobals "list" = some none)
    (z_range : PySem.W.nsIn K mainGlobals "range" = some none)
    (z_repr : PySem.W.nsIn K mainGlobals "repr" = some none)
    (z_sorted : PySem.W.nsIn K mainGlobals "sorted" = some none)
    (z_super : PySem.W.nsIn K mainGlobals "super" = some none)
    {t_TEXT : Tok} (q_TEXT : PySem.W.nsIn K mainGlobals "TEXT" = some (some (.str "text" t_TEXT)))
    {t_SELECT : Tok} (q_SELECT : PySem.W.nsIn K mainGlobals "SELECT" = some (some (.str "select" t_SELECT)))
    {t_PLURAL : Tok} (q_PLURAL : PySem.W.nsIn K mainGlobals "PLURAL" = some (some (.str "plural" t_PLURAL)))
    {t_OTHER : Tok} (q_OTHER : PySem.W.nsIn K mainGlobals "OTHER" = some (some (.str "other" t_OTHER)))
    {a_CHOICES : Addr} {t0_CHOICES t1_CHOICES : Tok} {dd_CHOICES : Option Addr} {n_CHOICES : Nat} {sl_CHOICES : Array (Option Value)} (q_CHOICES : PySem.W.nsIn K mainGlobals "CHOICES" = some (some (.ref a_CHOICES))) (r_CHOICES : K.lookup a_CHOICES = some ⟨.type "tuple", dd_CHOICES, .seq #[.str "select" t0_CHOICES, .str "plural" t1_CHOICES] n_CHOICES, sl_CHOICES⟩)
    (hlaw : ∀ ns : List Int, ns.length ≤ 63 → ∃ S, run 60 1015 [.scr ns] [] = .ok (.bl true) S) :
    ∃ fd : FuncData, (∀ (s : Shared) (v : Value), BindsTo s fd ⟨[v], []⟩ [("_law_script", v)]) ∧ ∀ base : Heap, K.In base → base.Ns mainGlobals mg → FnG l.prog w K mg base 120 fa fd ["_law_script"] (DL.spLaw K) := by
  have e := hfa.symm.trans (PySem.W.mg_of X G a1015)
  cases e
  let A : Nat → Addr := fun i => match i with
    | 1 => f1
    | 2 => f2
    | 4 => f4
    | 5 => f5
    | 148 => f148
    | 149 => f149
    | 150 => f150
    | 151 => f151
    | 152 => f152
    | 153 => f153
    | 154 => f154
    | 155 => f155
    | 156 => f156
    | 157 => f157
    | 1000 => f1000
    | 1001 => f1001
    | 1002 => f1002
    | 1003 => f1003
    | 1004 => f1004
    | 1005 => f1005
    | 1006 => f1006
    | 1007 => f1007
    | 1008 => f1008
    | 1009 => f1009
    | 1010 => f1010
    | 1011 => f1011
    | 1012 => f1012
    | 1013 => f1013
    | 1014 => f1014
    | 1015 => fa
    | 2007 => fINoSuchPlace
    | 3007 => ccNoSuchPlace
    | 4007 => cdaNoSuchPlace
    | 2008 => fINoSuchKey
    | 3008 => ccNoSuchKey
    | 4008 => cdaNoSuchKey
    | _ => 0
  let CL : Nat → Addr := fun i => if i = 10 then CNoSuchPlace else if i = 11 then CNoSuchKey else if i = 25 then CBook else 0
  have h0 : ∀ i, CL (i + 1000) = 0 := fun i => by
    show (fun i => if i = 10 then CNoSuchPlace else if i = 11 then CNoSuchKey else if i = 25 then CBook else 0) (i + 1000) = 0
    simp only []
    repeat rw [if_neg (by omega)]
  let FD : Nat → FuncData := fun i => match i with
    | 1 => (PySem.W.fnOf "cases_of" "cases_of" (defArgs s_1) (defBody s_1) (defScope s_1) .none kV1 dc1 pm1 an1 cd1 ct1)
    | 2 => (PySem.W.fnOf "other_of" "other_of" (defArgs s_2) (defBody s_2) (defScope s_2) .none kV2 dc2 pm2 an2 cd2 ct2)
    | 4 => (PySem.W.fnOf "plain_node" "plain_node" (defArgs s_4) (defBody s_4) (defScope s_4) .none kV4 dc4 pm4 an4 cd4 ct4)
    | 5 => (PySem.W.fnOf "plain" "plain" (defArgs s_5) (defBody s_5) (defScope s_5) .none kV5 dc5 pm5 an5 cd5 ct5)
    | 148 => (PySem.W.fnOf "case_at" "case_at" (defArgs s_148) (defBody s_148) (defScope s_148) .none kV148 dc148 pm148 an148 cd148 ct148)
    | 149 => (PySem.W.fnOf "message_at" "message_at" (defArgs s_149) (defBody s_149) (defScope s_149) .none kV149 dc149 pm149 an149 cd149 ct149)
    | 150 => (PySem.W.fnOf "with_case" "with_case" (defArgs s_150) (defBody s_150) (defScope s_150) .none kV150 dc150 pm150 an150 cd150 ct150)
    | 151 => (PySem.W.fnOf "replaced" "replaced" (defArgs s_151) (defBody s_151) (defScope s_151) .none kV151 dc151 pm151 an151 cd151 ct151)
    | 152 => (PySem.W.fnOf "__init__" "Book.__init__" (defArgs s_152) (defBody s_152) (defScope s_152) .none kV152 dc152 pm152 an152 cd152 ct152)
    | 153 => (PySem.W.fnOf "messages" "Book.messages" (defArgs s_153) (defBody s_153) (defScope s_153) .none kV153 dc153 pm153 an153 cd153 ct153)
    | 154 => (PySem.W.fnOf "put" "Book.put" (defArgs s_154) (defBody s_154) (defScope s_154) .none kV154 dc154 pm154 an154 cd154 ct154)
    | 155 => (PySem.W.fnOf "drop" "Book.drop" (defArgs s_155) (defBody s_155) (defScope s_155) .none kV155 dc155 pm155 an155 cd155 ct155)
    | 156 => (PySem.W.fnOf "change" "Book.change" (defArgs s_156) (defBody s_156) (defScope s_156) .none kV156 dc156 pm156 an156 cd156 ct156)
    | 157 => (PySem.W.fnOf "undo" "Book.undo" (defArgs s_157) (defBody s_157) (defScope s_157) .none kV157 dc157 pm157 an157 cd157 ct157)
    | 1000 => (PySem.W.fnOf "_law_cell" "_law_cell" (defArgs s_1000) (defBody s_1000) (defScope s_1000) .none kV1000 dc1000 pm1000 an1000 cd1000 ct1000)
    | 1001 => (PySem.W.fnOf "_law_row" "_law_row" (defArgs s_1001) (defBody s_1001) (defScope s_1001) .none kV1001 dc1001 pm1001 an1001 cd1001 ct1001)
    | 1002 => (PySem.W.fnOf "_law_box" "_law_box" (defArgs s_1002) (defBody s_1002) (defScope s_1002) .none kV1002 dc1002 pm1002 an1002 cd1002 ct1002)
    | 1003 => (PySem.W.fnOf "_law_draw" "_law_draw" (defArgs s_1003) (defBody s_1003) (defScope s_1003) .none kV1003 dc1003 pm1003 an1003 cd1003 ct1003)
    | 1004 => (PySem.W.fnOf "_law_same" "_law_same" (defArgs s_1004) (defBody s_1004) (defScope s_1004) .none kV1004 dc1004 pm1004 an1004 cd1004 ct1004)
    | 1005 => (PySem.W.fnOf "_law_message" "_law_message" (defArgs s_1005) (defBody s_1005) (defScope s_1005) .none kV1005 dc1005 pm1005 an1005 cd1005 ct1005)
    | 1006 => (PySem.W.fnOf "_law_paths" "_law_paths" (defArgs s_1006) (defBody s_1006) (defScope s_1006) .none kV1006 dc1006 pm1006 an1006 cd1006 ct1006)
    | 1007 => (PySem.W.fnOf "_law_at" "_law_at" (defArgs s_1007) (defBody s_1007) (defScope s_1007) .none kV1007 dc1007 pm1007 an1007 cd1007 ct1007)
    | 1008 => (PySem.W.fnOf "_law_put" "_law_put" (defArgs s_1008) (defBody s_1008) (defScope s_1008) .none kV1008 dc1008 pm1008 an1008 cd1008 ct1008)
    | 1009 => (PySem.W.fnOf "_law_path" "_law_path" (defArgs s_1009) (defBody s_1009) (defScope s_1009) .none kV1009 dc1009 pm1009 an1009 cd1009 ct1009)
    | 1010 => (PySem.W.fnOf "_law_plain" "_law_plain" (defArgs s_1010) (defBody s_1010) (defScope s_1010) .none kV1010 dc1010 pm1010 an1010 cd1010 ct1010)
    | 1011 => (PySem.W.fnOf "_law_deed" "_law_deed" (defArgs s_1011) (defBody s_1011) (defScope s_1011) .none kV1011 dc1011 pm1011 an1011 cd1011 ct1011)
    | 1012 => (PySem.W.fnOf "_law_done" "_law_done" (defArgs s_1012) (defBody s_1012) (defScope s_1012) .none kV1012 dc1012 pm1012 an1012 cd1012 ct1012)
    | 1013 => (PySem.W.fnOf "_law_call" "_law_call" (defArgs s_1013) (defBody s_1013) (defScope s_1013) .none kV1013 dc1013 pm1013 an1013 cd1013 ct1013)
    | 1014 => (PySem.W.fnOf "_law_told" "_law_told" (defArgs s_1014) (defBody s_1014) (defScope s_1014) .none kV1014 dc1014 pm1014 an1014 cd1014 ct1014)
    | 1015 => (PySem.W.fnOf "law" "law" (defArgs s_1015) (defBody s_1015) (defScope s_1015) .none kV1015 dc1015 pm1015 an1015 cd1015 ct1015)
    | _ => (PySem.W.fnOf "law" "law" (defArgs s_1015) (defBody s_1015) (defScope s_1015) .none kV1015 dc1015 pm1015 an1015 cd1015 ct1015)
  have T : Top l.prog K mg CL A FD := {
    m_NoSuchPlace := PySem.W.mg_of X G a_NoSuchPlace
    m_NoSuchKey := PySem.W.mg_of X G a_NoSuchKey
    m_Book := PySem.W.mg_of X G a_Book
    cb_Book := ⟨pg_Book, hd_Book, po_Book, sa_Book⟩
    mk_Book := ⟨mk_Book, a152, i152, kp_Book⟩
    na_Book_past := na_Book_past
    e_NoSuchPlace := errBody tx_NoSuchPlace cl_NoSuchPlace rv_NoSuchPlace sa_NoSuchPlace no_NoSuchPlace iC_NoSuchPlace tC_NoSuchPlace kC_NoSuchPlace ex_NoSuchPlace ve_NoSuchPlace ty_NoSuchPlace su_NoSuchPlace mc_NoSuchPlace ic_NoSuchPlace cell_NoSuchPlace code_NoSuchPlace v2_NoSuchPlace file_NoSuchPlace thp tops fn_NoSuchPlace cod_NoSuchPlace bd_NoSuchPlace
    x_NoSuchPlace := ⟨hg_NoSuchPlace, hk_NoSuchPlace, ex_NoSuchPlace, hd_NoSuchPlace, ha_NoSuchPlace, hn, ht, hm_NoSuchPlace⟩
    n_NoSuchPlace := no_NoSuchPlace
    e_NoSuchKey := errBody tx_NoSuchKey cl_NoSuchKey rv_NoSuchKey sa_NoSuchKey no_NoSuchKey iC_NoSuchKey tC_NoSuchKey kC_NoSuchKey ex_NoSuchKey ve_NoSuchKey ty_NoSuchKey su_NoSuchKey mc_NoSuchKey ic_NoSuchKey cell_NoSuchKey code_NoSuchKey v2_NoSuchKey file_NoSuchKey thp tops fn_NoSuchKey cod_NoSuchKey bd_NoSuchKey
    x_NoSuchKey := ⟨hg_NoSuchKey, hk_NoSuchKey, ex_NoSuchKey, hd_NoSuchKey, ha_NoSuchKey, hn, ht, hm_NoSuchKey⟩
    n_NoSuchKey := no_NoSuchKey
    t_NoSuchKey_NoSuchPlace := PySem.W.exm_ref xb_NoSuchKey xd_NoSuchKey xt_NoSuchKey xs_NoSuchKey_NoSuchPlace
    k_NoSuchKey_NoSuchPlace := xk_NoSuchKey_NoSuchPlace
    t_NoSuchKey_NoSuchKey := PySem.W.exm_ref xb_NoSuchKey xd_NoSuchKey xt_NoSuchKey xs_NoSuchKey_NoSuchKey
    k_NoSuchKey_NoSuchKey := xk_NoSuchKey_NoSuchKey
    t_NoSuchPlace_NoSuchPlace := PySem.W.exm_ref xb_NoSuchPlace xd_NoSuchPlace xt_NoSuchPlace xs_NoSuchPlace_NoSuchPlace
    k_NoSuchPlace_NoSuchPlace := xk_NoSuchPlace_NoSuchPlace
    t_NoSuchPlace_NoSuchKey := PySem.W.exm_ref xb_NoSuchPlace xd_NoSuchPlace xt_NoSuchPlace xs_NoSuchPlace_NoSuchKey
    k_NoSuchPlace_NoSuchKey := xk_NoSuchPlace_NoSuchKey
    b_dict := PySem.W.mg_none_of X G z_dict
    b_int := PySem.W.mg_none_of X G z_int
    b_isinstance := PySem.W.mg_none_of X G z_isinstance
    b_len := PySem.W.mg_none_of X G z_len
    b_list := PySem.W.mg_none_of X G z_list
    b_range := PySem.W.mg_none_of X G z_range
    b_repr := PySem.W.mg_none_of X G z_repr
    b_sorted := PySem.W.mg_none_of X G z_sorted
    b_super := PySem.W.mg_none_of X G z_super
    c_TEXT := ⟨_, PySem.W.mg_of X G q_TEXT⟩
    c_SELECT := ⟨_, PySem.W.mg_of X G q_SELECT⟩
    c_PLURAL := ⟨_, PySem.W.mg_of X G q_PLURAL⟩
    c_OTHER := ⟨_, PySem.W.mg_of X G q_OTHER⟩
    c_CHOICES := ⟨_, [.str "select" t0_CHOICES, .str "plural" t1_CHOICES], _, _, _, PySem.W.mg_of X G q_CHOICES, r_CHOICES, by repeat constructor, (by decide : 2 ≤ sizeLine)⟩
    f_1 := fun_mk (st := s_1) l1 c1 k1
    g_1 := PySem.W.mg_of X G a1
    n_1 := (fun_mk (st := s_1) l1 c1 k1).binds fun _ _ _ _ _ _ us hl => match us, hl with | [_], _ => rfl
    f_2 := fun_mk (st := s_2) l2 c2 k2
    g_2 := PySem.W.mg_of X G a2
    n_2 := (fun_mk (st := s_2) l2 c2 k2).binds fun _ _ _ _ _ _ us hl => match us, hl with | [_], _ => rfl
    f_4 := fun_mk (st := s_4) l4 c4 k4
    g_4 := PySem.W.mg_of X G a4
    n_4 := (fun_mk (st := s_4) l4 c4 k4).binds fun _ _ _ _ _ _ us hl => match us, hl with | [_], _ => rfl
    f_5 := fun_mk (st := s_5) l5 c5 k5
    g_5 := PySem.W.mg_of X G a5
    n_5 := (fun_mk (st := s_5) l5 c5 k5).binds fun _ _ _ _ _ _ us hl => match us, hl with | [_], _ => rfl
    f_148 := fun_mk (st := s_148) l148 c148 k148
    g_148 := PySem.W.mg_of X G a148
    n_148 := (fun_mk (st := s_148) l148 c148 k148).binds fun _ _ _ _ _ _ us hl => match us, hl with | [_, _, _], _ => rfl
    f_149 := fun_mk (st := s_149) l149 c149 k149
    g_149 := PySem.W.mg_of X G a149
    n_149 := (fun_mk (st := s_149) l149 c149 k149).binds fun _ _ _ _ _ _ us hl => match us, hl with | [_, _], _ => rfl
    f_150 := fun_mk (st := s_150) l150 c150 k150
    g_150 := PySem.W.mg_of X G a150
    n_150 := (fun_mk (st := s_150) l150 c150 k150).binds fun _ _ _ _ _ _ us hl => match us, hl with | [_, _, _], _ => rfl
    f_151 := fun_mk (st := s_151) l151 c151 k151
    g_151 := PySem.W.mg_of X G a151
    n_151 := (fun_mk (st := s_151) l151 c151 k151).binds fun _ _ _ _ _ _ us hl => match us, hl with | [_, _, _], _ => rfl
    f_152 := fun_mk (st := s_152) l152 c152 k152
    n_152 := (fun_mk (st := s_152) l152 c152 k152).binds fun _ _ _ _ _ _ us hl => match us, hl with | [_], _ => rfl
    f_153 := fun_mk (st := s_153) l153 c153 k153
    g_153 := ⟨a153, i153, k153⟩
    n_153 := (fun_mk (st := s_153) l153 c153 k153).binds fun _ _ _ _ _ _ us hl => match us, hl with | [_], _ => rfl
    f_154 := fun_mk (st := s_154) l154 c154 k154
    g_154 := ⟨a154, i154, k154⟩
    n_154 := (fun_mk (st := s_154) l154 c154 k154).binds fun _ _ _ _ _ _ us hl => match us, hl with | [_, _, _], _ => rfl
    f_155 := fun_mk (st := s_155) l155 c155 k155
    g_155 := ⟨a155, i155, k155⟩
    n_155 := (fun_mk (st := s_155) l155 c155 k155).binds fun _ _ _ _ _ _ us hl => match us, hl with | [_, _], _ => rfl
    f_156 := fun_mk (st := s_156) l156 c156 k156
    g_156 := ⟨a156, i156, k156⟩
    n_156 := (fun_mk (st := s_156) l156 c156 k156).binds fun _ _ _ _ _ _ us hl => match us, hl with | [_, _, _, _], _ => rfl
    f_157 := fun_mk (st := s_157) l157 c157 k157
    g_157 := ⟨a157, i157, k157⟩
    n_157 := (fun_mk (st := s_157) l157 c157 k157).binds fun _ _ _ _ _ _ us hl => match us, hl with | [_], _ => rfl
    f_1000 := fun_mk (st := s_1000) l1000 c1000 k1000
    g_1000 := PySem.W.mg_of X G a1000
    n_1000 := (fun_mk (st := s_1000) l1000 c1000 k1000).binds fun _ _ _ _ _ _ us hl => match us, hl with | [_, _], _ => rfl
    f_1001 := fun_mk (st := s_1001) l1001 c1001 k1001
    g_1001 := PySem.W.mg_of X G a1001
    n_1001 := (fun_mk (st := s_1001) l1001 c1001 k1001).binds fun _ _ _ _ _ _ us hl => match us, hl with | [_, _, _], _ => rfl
    f_1002 := fun_mk (st := s_1002) l1002 c1002 k1002
    g_1002 := PySem.W.mg_of X G a1002
    n_1002 := (fun_mk (st := s_1002) l1002 c1002 k1002).binds fun _ _ _ _ _ _ us hl => match us, hl with | [_, _, _], _ => rfl
    f_1003 := fun_mk (st := s_1003) l1003 c1003 k1003
    g_1003 := PySem.W.mg_of X G a1003
    n_1003 := (fun_mk (st := s_1003) l1003 c1003 k1003).binds fun _ _ _ _ _ _ us hl => match us, hl with | [_, _], _ => rfl
    f_1004 := fun_mk (st := s_1004) l1004 c1004 k1004
    g_1004 := PySem.W.mg_of X G a1004
    n_1004 := (fun_mk (st := s_1004) l1004 c1004 k1004).binds fun _ _ _ _ _ _ us hl => match us, hl with | [_, _], _ => rfl
    f_1005 := fun_mk (st := s_1005) l1005 c1005 k1005
    g_1005 := PySem.W.mg_of X G a1005
    n_1005 := (fun_mk (st := s_1005) l1005 c1005 k1005).binds fun _ _ _ _ _ _ us hl => match us, hl with | [_, _, _, _], _ => rfl
    f_1006 := fun_mk (st := s_1006) l1006 c1006 k1006
    g_1006 := PySem.W.mg_of X G a1006
    n_1006 := (fun_mk (st := s_1006) l1006 c1006 k1006).binds fun _ _ _ _ _ _ us hl => match us, hl with | [_], _ => rfl
    f_1007 := fun_mk (st := s_1007) l1007 c1007 k1007
    g_1007 := PySem.W.mg_of X G a1007
    n_1007 := (fun_mk (st := s_1007) l1007 c1007 k1007).binds fun _ _ _ _ _ _ us hl => match us, hl with | [_, _], _ => rfl
    f_1008 := fun_mk (st := s_1008) l1008 c1008 k1008
    g_1008 := PySem.W.mg_of X G a1008
    n_1008 := (fun_mk (st := s_1008) l1008 c1008 k1008).binds fun _ _ _ _ _ _ us hl => match us, hl with | [_, _, _], _ => rfl
    f_1009 := fun_mk (st := s_1009) l1009 c1009 k1009
    g_1009 := PySem.W.mg_of X G a1009
    n_1009 := (fun_mk (st := s_1009) l1009 c1009 k1009).binds fun _ _ _ _ _ _ us hl => match us, hl with | [_, _], _ => rfl
    f_1010 := fun_mk (st := s_1010) l1010 c1010 k1010
    g_1010 := PySem.W.mg_of X G a1010
    n_1010 := (fun_mk (st := s_1010) l1010 c1010 k1010).binds fun _ _ _ _ _ _ us hl => match us, hl with | [_], _ => rfl
    f_1011 := fun_mk (st := s_1011) l1011 c1011 k1011
    g_1011 := PySem.W.mg_of X G a1011
    n_1011 := (fun_mk (st := s_1011) l1011 c1011 k1011).binds fun _ _ _ _ _ _ us hl => match us, hl with | [_, _], _ => rfl
    f_1012 := fun_mk (st := s_1012) l1012 c1012 k1012
    g_1012 := PySem.W.mg_of X G a1012
    n_1012 := (fun_mk (st := s_1012) l1012 c1012 k1012).binds fun _ _ _ _ _ _ us hl => match us, hl with | [_, _], _ => rfl
    f_1013 := fun_mk (st := s_1013) l1013 c1013 k1013
    g_1013 := PySem.W.mg_of X G a1013
    n_1013 := (fun_mk (st := s_1013) l1013 c1013 k1013).binds fun _ _ _ _ _ _ us hl => match us, hl with | [_, _], _ => rfl
    f_1014 := fun_mk (st := s_1014) l1014 c1014 k1014
    g_1014 := PySem.W.mg_of X G a1014
    n_1014 := (fun_mk (st := s_1014) l1014 c1014 k1014).binds fun _ _ _ _ _ _ us hl => match us, hl with | [_, _], _ => rfl
    f_1015 := fun_mk (st := s_1015) l1015 c1015 k1015
    g_1015 := PySem.W.mg_of X G a1015
    n_1015 := (fun_mk (st := s_1015) l1015 c1015 k1015).binds fun _ _ _ _ _ _ us hl => match us, hl with | [_], _ => rfl }
  refine ⟨(PySem.W.fnOf "law" "law" (defArgs s_1015) (defBody s_1015) (defScope s_1015) .none kV1015 dc1015 pm1015 an1015 cd1015 ct1015), fun s v => .of_eq rfl, fun base _ _ => ?_⟩
  exact lawG_imp (cls := CL) ((all (P := l.prog) (w := w) (base := base) (cls := CL) T 60).k_1015) h0 hlaw
end
section
open PySem L2 DL
/-! ### the law's draws, by rows (ids 1000 cell, 1001 row, 1002 box, 1003 draw) -/
theorem run_cell (n : Nat) (ns : List Int) (k : Nat) (S : List D) : run (n + 1) 1000 [.scr ns, .int k] S = .ok (.int (ns.getD k 0)) S := by
  rw [run_1000]
  by_cases h : k < ns.length
  · have h2 : atI ns (k : Int) = some (ns[k]) := by rw [atI_get?, List.getElem?_eq_getElem h]
    simp [B_1000, h, h2]
  · simp [B_1000, h]
def IntsD (ds : List D) : Prop := ∀ d ∈ ds, ∃ i : Int, d = .int i
theorem IntsD.nil : IntsD [] := fun d h => by cases h
theorem IntsD.snoc {ds : List D} (h : IntsD ds) (i : Int) : IntsD (ds ++ [.int i]) := fun d hm => by
  rcases List.mem_append.mp hm with z | z
  · exact h d z
  · rw [List.mem_singleton] at z; exact ⟨_, z⟩
theorem IntsD.ex : ∀ {es : List D}, IntsD es → ∃ ds : List Int, es = ds.map .int
  | [], _ => ⟨[], rfl⟩
  | x :: xs, h => by
    obtain ⟨i, rfl⟩ := h x List.mem_cons_self
    obtain ⟨ds, rfl⟩ := IntsD.ex (es := xs) fun d hd => h d (List.mem_cons_of_mem _ hd)
    exact ⟨i :: ds, rfl⟩
theorem row_loop1 (R : Rec) (v1 : Sl) (S : List D) : ∀ (xs ds : List D) (c : Int), ds.length + xs.length ≤ 1000000 → IntsD ds → 0 ≤ c →
    ∃ es c', forD (.nm 4) [4] (L_1001_1 R) xs [.val (.int c), v1, .val (.int 12), .own (.lst ds), .non, .non] S = .next [.val (.int c'), v1, .val (.int 12), .own (.lst es), .non, .non] S ∧ es.length ≤ ds.length + xs.length ∧ IntsD es
  | [], ds, c, h, hd, hc => ⟨ds, c, rfl, Nat.le_refl _, hd⟩
  | x :: xs, ds, c, h, hd, hc => by
    rw [List.length_cons] at h
    have hsz : ds.length < sizeLine := by rw [sizeLine_eq]; omega
    rw [forD]
    by_cases hp : 0 < c ∧ (ds.length : Int) < 12
    · obtain ⟨es, c', h1, h2, h3⟩ := row_loop1 R v1 S xs (ds ++ [.int (c % 1000)]) (c / 1000) (by rw [List.length_append, List.length_singleton]; omega) (hd.snoc _) (Int.ediv_nonneg hc (by decide))
      refine ⟨es, c', ?_, ?_, h3⟩
      · simp [e_L_1001_1, hp.1, hp.2, hsz]
        exact h1
      · rw [List.length_append, List.length_singleton] at h2
        rw [List.length_cons]; omega
    · obtain ⟨es, c', h1, h2, h3⟩ := row_loop1 R v1 S xs ds c (by omega) hd hc
      refine ⟨es, c', ?_, by rw [List.length_cons]; omega, h3⟩
      by_cases h0 : 0 < c
      · have h9 : ¬ (ds.length : Int) < 12 := fun z => hp ⟨h0, z⟩
        simp [e_L_1001_1, h0, h9]
        exact h1
      · simp [e_L_1001_1, h0]
        exact h1
theorem row_loop2 (R : Rec) (v0 v1 v2 : Sl) (S : List D) : ∀ (m : Nat) (lo : Int) (ds : List D) (c : Int), ds.length + m ≤ 1000000 → IntsD ds →
    ∃ es c', forD (.nm 4) [4] (L_1001_2 R) ((List.range' 0 m).map fun (k : Nat) => D.int (lo + k)) [v0, v1, v2, .own (.lst ds), .non, .val (.int c)] S = .next [v0, v1, v2, .own (.lst es), .non, .val (.int c')] S ∧ es.length ≤ ds.length + m ∧ IntsD es
  | 0, lo, ds, c, h, hd => ⟨ds, c, rfl, Nat.le_refl _, hd⟩
  | m + 1, lo, ds, c, h, hd => by
    have hsz : ds.length < sizeLine := by rw [sizeLine_eq]; omega
    obtain ⟨es, c', h1, h2, h3⟩ := row_loop2 R v0 v1 v2 S m (lo + 1) (ds ++ [.int ((((c * 16807 + 7 * lo) + 1) % 2147483647) / 997 % 1000)]) (((c * 16807 + 7 * lo) + 1) % 2147483647) (by rw [List.length_append, List.length_singleton]; omega) (hd.snoc _)
    have e : ((List.range' 0 (m + 1)).map fun (k : Nat) => D.int (lo + k)) = .int lo :: ((List.range' 0 m).map fun (k : Nat) => D.int (lo + 1 + k)) := by
      rw [List.range'_succ, List.map_cons]
      have z : List.range' (0 + 1) m = (List.range' 0 m).map (fun x => 1 + x) := by rw [List.map_add_range']
      rw [z, List.map_map]
      simp
      intro a _
      omega
    refine ⟨es, c', ?_, ?_, h3⟩
    · rw [e, forD]
      have k1 : dMul (.int c) (.int 16807) = some (.int (c * 16807)) := dMul_int (by decide)
      have k2 : dMul (.int 7) (.int lo) = some (.int (7 * lo)) := dMul_intl (by decide)
      simp [e_L_1001_2, hsz, k1, k2]
      exact h1
    · rw [List.length_append, List.length_singleton] at h2; omega
theorem rangeD_range' (lo : Int) (n : Nat) : rangeD lo n = (List.range' 0 n).map fun (k : Nat) => D.int (lo + k) := by
  unfold rangeD; rw [List.range_eq_range']
theorem run_row (n : Nat) (c0 : Int) (k0 : Nat) (S : List D) : ∃ ds : List Int, run (n + 1) 1001 [.int c0, .int k0, .int 12] S = .ok (.lst (ds.map .int)) S ∧ ds.length ≤ 60 := by
  rw [run_1001]
  obtain ⟨c, hcv, hpos⟩ : ∃ c : Int, (if c0 < 0 then 1 - 2 * c0 else c0) = c ∧ 0 ≤ c := ⟨_, rfl, by split <;> omega⟩
  have k1 : dMul (.int 2) (.int c0) = some (.int (2 * c0)) := dMul_intl (by decide)
  by_cases hb' : P18 ≤ c
  · obtain ⟨es, c', h1, h2, h3⟩ := row_loop1 (run n) (.val (.int (k0 : Int))) S (rangeD 0 60) [] c (by rw [rangeD_len]; decide) IntsD.nil hpos
    rw [rangeD_len] at h2
    obtain ⟨ds, rfl⟩ := h3.ex
    have i60 : inR 60 = true := by decide
    refine ⟨ds, ?_, by simpa using h2⟩
    by_cases hn : c0 < 0
    · rw [if_pos hn] at hcv
      subst hcv
      simp [B_1001, hn, k1, hb', i60, h1]
    · rw [if_neg hn] at hcv
      subst hcv
      simp [B_1001, hn, k1, hb', i60, h1]
  · obtain ⟨es, c', h1, h2, h3⟩ := row_loop2 (run n) (.val (.int c)) (.val (.int (k0 : Int))) (.val (.int 12)) S 12 0 [] ((c * 48271 + (k0 : Int) * 69621 + 11) % 2147483647) (by decide) IntsD.nil
    rw [← rangeD_range'] at h1
    obtain ⟨ds, rfl⟩ := h3.ex
    have i12 : inR 12 = true := by decide
    have k2 : dMul (.int c) (.int 48271) = some (.int (c * 48271)) := dMul_int (by decide)
    have k3 : dMul (.int (k0 : Int)) (.int 69621) = some (.int ((k0 : Int) * 69621)) := dMul_int (by decide)
    refine ⟨ds, ?_, by have := h2; simp at this; omega⟩
    by_cases hn : c0 < 0
    · rw [if_pos hn] at hcv
      subst hcv
      simp [B_1001, hn, k1, hb', i12, k2, k3, h1]
    · rw [if_neg hn] at hcv
      subst hcv
      simp [B_1001, hn, k1, hb', i12, k2, k3, h1]
theorem box_loop (n : Nat) (ns : List Int) (v1 v2 : Sl) (S : List D) (m : Nat) : ∀ (k0 : Nat) (ds : List Int), ds.length + 60 * m ≤ 1000000 →
    ∃ es : List Int, forD (.nm 4) [4] (L_1002_1 (run (n + 1))) ((List.range' k0 m).map fun (k : Nat) => D.int k) [.val (.scr ns), v1, v2, .val (.lst (ds.map .int)), .non] S = .next [.val (.scr ns), v1, v2, .val (.lst (es.map .int)), .non] S ∧ es.length ≤ ds.length + 60 * m := by
  induction m with
  | zero => exact fun k0 ds h => ⟨ds, rfl, Nat.le_refl _⟩
  | succ m ih =>
    intro k0 ds h
    rw [List.range'_succ, List.map_cons, forD]
    have hc := run_cell n ns k0 S
    obtain ⟨rs, hr, hl⟩ := run_row n (ns.getD k0 0) k0 S
    obtain ⟨es, h1, h2⟩ := ih (k0 + 1) (ds ++ rs) (by rw [List.length_append]; omega)
    have ad : dAdd (.lst (ds.map D.int)) (.lst (rs.map D.int)) = some (.lst ((ds ++ rs).map D.int)) := by
      rw [List.map_append]
      exact dAdd_lst (by rw [List.length_map, List.length_map]; omega)
    refine ⟨es, ?_, by rw [List.length_append] at h2; omega⟩
    simp [e_L_1002_1]
    simp at hc hr ad h1
    simp [hc, hr, ad]
    exact h1
/-- the digits, in a box of the store -/
def box (ds : List Int) (k : Nat) : D := .lst [.lst (ds.map .int), .int k]
def BxR (r : List D) (S : List D) : Prop := ∃ ds k, S = box ds k :: r
theorem run_box (n : Nat) (ns : List Int) (m : Nat) (hm : m ≤ 63) : ∃ ds : List Int, run (n + 2) 1002 [.scr ns, .int 0, .int m] [] = .ok (.ptr 0) [box ds 0] := by
  obtain ⟨es, h1, h2⟩ := box_loop n ns (.val (.int 0)) (.val (.int m)) [] m 0 [] (by simp; omega)
  refine ⟨es, ?_⟩
  rw [run_1002]
  have i0 : inR 0 = true := by decide
  have im : inR (m : Int) = true := inR_of (by omega)
  have hr : rangeD 0 m = (List.range' 0 m).map fun (k : Nat) => D.int k := by unfold rangeD; rw [List.range_eq_range']; simp
  simp [B_1002, i0, im, hr] at h1 ⊢
  simp [h1, box]
theorem run_draw {r : List D} (n : Nat) (m : Int) (hm : 0 < m) (S : List D) (hS : BxR r S) : ∃ (q : Int) (S' : List D), run (n + 1) 1003 [.ptr 0, .int m] S = .ok (.int q) S' ∧ BxR r S' ∧ 0 ≤ q ∧ q < m := by
  obtain ⟨ds, k, rfl⟩ := hS
  rw [run_1003]
  have a1 : ∀ (x y : D), atI [x, y] 1 = some y := fun x y => rfl
  have a0 : ∀ (x y : D), atI [x, y] 0 = some x := fun x y => rfl
  have x2 : ixN 2 1 = some 1 := rfl
  by_cases h : k < ds.length
  · have g : atI (ds.map D.int) (k : Int) = some (.int ds[k]) := by rw [atI_get?, List.getElem?_map, List.getElem?_eq_getElem h]; rfl
    refine ⟨ds[k] % m, box ds (k + 1) :: r, ?_, ⟨ds, k + 1, rfl⟩, Int.emod_nonneg _ (by omega), Int.emod_lt_of_pos _ hm⟩
    simp [B_1003, box, a1, a0, x2, h, g, hm]
  · have k1 : dMul (.int (k : Int)) (.int 7) = some (.int ((k : Int) * 7)) := dMul_int (by decide)
    refine ⟨((k : Int) * 7 + 3) % m, box ds (k + 1) :: r, ?_, ⟨ds, k + 1, rfl⟩, Int.emod_nonneg _ (by omega), Int.emod_lt_of_pos _ hm⟩
    simp [B_1003, box, a1, a0, x2, h, k1, hm]

end
section
open PySem L2 DL
/-! ### messages: what the small defs answer -/
def tag : Nd → Str
  | .text _ => "text"
  | .shw _ => "show"
  | .num => "number"
  | .sel _ _ _ => "select"
  | .plu _ _ _ _ => "plural"
theorem at1_0 (a : D) : atI [a] 0 = some a := rfl
theorem at2_0 (a b : D) : atI [a, b] 0 = some a := rfl
theorem at2_1 (a b : D) : atI [a, b] 1 = some b := rfl
theorem at4_0 (a b c d : D) : atI [a, b, c, d] 0 = some a := rfl
theorem at5_0 (a b c d e : D) : atI [a, b, c, d, e] 0 = some a := rfl
theorem at4_m1 (a b c d : D) : atI [a, b, c, d] (-1) = some d := rfl
theorem at5_m1 (a b c d e : D) : atI [a, b, c, d, e] (-1) = some e := rfl
theorem at4_m2 (a b c d : D) : atI [a, b, c, d] (-2) = some c := rfl
theorem at5_m2 (a b c d e : D) : atI [a, b, c, d, e] (-2) = some d := rfl
@[simp] theorem tag0 (n : Nd) : dIdx (eN n) (.int 0) = some (.str (tag n)) := by cases n <;> rw [eN] <;> rfl
@[simp] theorem text1 (x : Str) : dIdx (eN (.text x)) (.int 1) = some (.str x) := by rw [eN]; rfl
@[simp] theorem ref_eN (n : Nd) (S : List D) : deref S (eN n) = eN n := by cases n <;> rw [eN] <;> rfl
theorem s_tt : (("text" : Str) == "text") = true := by decide +kernel
theorem s_st : (("show" : Str) == "text") = false := by decide +kernel
theorem s_nt : (("number" : Str) == "text") = false := by decide +kernel
theorem s_lt : (("select" : Str) == "text") = false := by decide +kernel
theorem s_pt : (("plural" : Str) == "text") = false := by decide +kernel
theorem tag_text (n : Nd) : (tag n == ("text" : Str)) = isT n := by cases n <;> first | exact s_tt | exact s_st | exact s_nt | exact s_lt | exact s_pt
def isC : Nd → Bool
  | .sel _ _ _ => true
  | .plu _ _ _ _ => true
  | _ => false
theorem in_t : inF (.str "text") [.str "select", .str "plural"] = false := by decide +kernel
theorem in_s : inF (.str "show") [.str "select", .str "plural"] = false := by decide +kernel
theorem in_n : inF (.str "number") [.str "select", .str "plural"] = false := by decide +kernel
theorem in_l : inF (.str "select") [.str "select", .str "plural"] = true := by decide +kernel
theorem in_p : inF (.str "plural") [.str "select", .str "plural"] = true := by decide +kernel
theorem tag_dIn (n : Nd) : dIn (.str (tag n)) (.tup [.str "select", .str "plural"]) = some (isC n) := by
  have h : inF (.str (tag n)) [.str "select", .str "plural"] = isC n := by cases n <;> first | exact in_t | exact in_s | exact in_n | exact in_l | exact in_p
  rw [← h]
  show (if flatD (.str (tag n)) = true ∧ [D.str "select", .str "plural"].all flatD = true then some (inF (.str (tag n)) [.str "select", .str "plural"]) else none) = _
  exact if_pos ⟨rfl, rfl⟩
theorem tag_in (n : Nd) : cIn (.str (tag n)) (.tup [.str "select", .str "plural"]) = some (.bl (isC n)) := by
  unfold cIn; rw [tag_dIn]; rfl
theorem tag_notIn (n : Nd) : cNotIn (.str (tag n)) (.tup [.str "select", .str "plural"]) = some (.bl (!isC n)) := by
  unfold cNotIn; rw [tag_dIn]; rfl
theorem empty_ok : PyData.canLay0 (.str "") = true := by decide +kernel
def isE : Nd → Bool
  | .text x => x == ""
  | _ => false
theorem ne_empty (n : Nd) (h : nOk n = true) (hh : nH n ≤ 10) : cNe (eN n) (.tup [.str "text", .str ""]) = some (.bl (!isE n)) := by
  have e : (.tup [.str "text", .str ""] : D) = eN (.text "") := by rw [eN]
  have d2 : nOk (.text "") = true := by rw [nOk]; exact empty_ok
  have k : dEq (eN n) (eN (.text "")) = some (isE n) := by
    haveI : Decidable (eN n = eN (.text "")) := Classical.propDecidable _
    have dn := nDep n
    have d0 := nDep (.text "")
    rw [dEq_B (nOk_B n h) (nOk_B _ d2) (by omega) (by rw [nH] at d0; omega)]
    congr 1
    rw [Bool.eq_iff_iff, decide_eq_true_iff]
    have q1 : ¬ ("show" : Str) = "text" := by decide +kernel
    cases n with
    | text x => simp [eN, isE]
    | shw x => simp [eN, isE, q1]
    | num => simp [eN, isE]
    | sel x cs o => simp [eN, isE]
    | plu x f cs o => simp [eN, isE]
  rw [e]; unfold cNe; rw [k]; rfl
theorem run_cases (n : Nat) (nd : Nd) (cs : List Cs) (o : List Nd) (S : List D) (h : (∃ x, nd = .sel x cs o) ∨ ∃ x f, nd = .plu x f cs o) : run (n + 1) 1 [eN nd] S = .ok (.lst (eCs cs)) S := by
  rw [run_1]
  rcases h with ⟨x, rfl⟩ | ⟨x, f, rfl⟩ <;> simp [B_1, eN, at4_m2, at5_m2]
theorem run_other (n : Nat) (nd : Nd) (cs : List Cs) (o : List Nd) (S : List D) (h : (∃ x, nd = .sel x cs o) ∨ ∃ x f, nd = .plu x f cs o) : run (n + 1) 2 [eN nd] S = .ok (.lst (eL o)) S := by
  rw [run_2]
  rcases h with ⟨x, rfl⟩ | ⟨x, f, rfl⟩ <;> simp [B_2, eN, at4_m1, at5_m1]
theorem W_le {a : Nat} (h : a ≤ 5000000) : a ≤ sizeLine := Nat.le_trans h (by decide)
theorem lW_one (n : Nd) : lW [n] = nW n := by rw [lW, lW]; rfl
theorem mem_lOk {m : List Nd} {n : Nd} (h : n ∈ m) (ho : lOk m = true) : nOk n = true := by
  induction m with
  | nil => cases h
  | cons x r ih =>
    rw [lOk, Bool.and_eq_true] at ho
    rcases List.mem_cons.mp h with rfl | h
    · exact ho.1
    · exact ih h ho.2
theorem mem_lH {m : List Nd} {n : Nd} (h : n ∈ m) : nH n ≤ lH m := by
  induction m with
  | nil => cases h
  | cons x r ih =>
    rw [lH]
    rcases List.mem_cons.mp h with rfl | h
    · omega
    · have := ih h; omega
theorem mem_lW {m : List Nd} {n : Nd} (h : n ∈ m) : nW n ≤ lW m := by
  induction m with
  | nil => cases h
  | cons x r ih =>
    rw [lW]
    rcases List.mem_cons.mp h with rfl | h
    · omega
    · have := ih h; omega
theorem mem_csOk {m : List Cs} {n : Cs} (h : n ∈ m) (ho : csOk m = true) : cOk n = true := by
  induction m with
  | nil => cases h
  | cons x r ih =>
    rw [csOk, Bool.and_eq_true] at ho
    rcases List.mem_cons.mp h with rfl | h
    · exact ho.1
    · exact ih h ho.2
theorem mem_csH {m : List Cs} {n : Cs} (h : n ∈ m) : cH n ≤ csH m := by
  induction m with
  | nil => cases h
  | cons x r ih =>
    rw [csH]
    rcases List.mem_cons.mp h with rfl | h
    · omega
    · have := ih h; omega
theorem mem_csW {m : List Cs} {n : Cs} (h : n ∈ m) : cW n ≤ csW m := by
  induction m with
  | nil => cases h
  | cons x r ih =>
    rw [csW]
    rcases List.mem_cons.mp h with rfl | h
    · omega
    · have := ih h; omega
def cKey : Cs → Ky | .mk k _ => k
def cMsg : Cs → List Nd | .mk _ m => m
theorem eC1_eq (c : Cs) : eC1 c = .tup [eK (cKey c), .lst (eL (cMsg c))] := by cases c; rw [eC1]; rfl
@[simp] theorem ref_eK (k : Ky) (S : List D) : deref S (eK k) = eK k := by cases k <;> rfl
theorem comp_cases {ε : De} {Γ : List Sl} {S : List D} {i j : Nat} (f : Cs → D) (cs : List Cs) (h : ∀ c ∈ cs, ε ((Γ.set i (.val (eK (cKey c)))).set j (.val (.lst (eL (cMsg c))))) S = .ok (f c) S) :
    compD (.tp [.nm i, .nm j]) tTrue ε (eCs cs) Γ S = .ok (cs.map f) S := by
  have key : ∀ (xs : List Cs), (∀ c ∈ xs, c ∈ cs) → compD (.tp [.nm i, .nm j]) tTrue ε (eCs xs) Γ S = .ok (xs.map f) S := fun xs => by
    induction xs with
    | nil => intro _; rw [eCs]; rfl
    | cons c r ih =>
      intro hm
      have hc := h c (hm c List.mem_cons_self)
      have hr := ih fun x hx => hm x (List.mem_cons_of_mem _ hx)
      rw [eCs, compD, eC1_eq]
      simp [hc, hr]
  exact key cs fun c h => h
theorem lenOk_le {ds : List D} (h : ds.length ≤ 5000000) : lenOk ds = some (.lst ds) := if_pos (W_le h)
def inner : Nd → List (List Nd)
  | .sel _ cs o => cs.map cMsg ++ [o]
  | .plu _ _ cs o => cs.map cMsg ++ [o]
  | .text _ => []
  | .shw _ => []
  | .num => []
def eM (m : List Nd) : D := .lst (eL m)
@[simp] theorem ref_eM (m : List Nd) (S : List D) : deref S (eM m) = eM m := rfl
theorem comp_msgs (cs : List Cs) (ε : De) (Γ : List Sl) (S : List D) (i j : Nat) (h : ∀ c ∈ cs, ε ((Γ.set i (.val (eK (cKey c)))).set j (.val (.lst (eL (cMsg c))))) S = .ok (eM (cMsg c)) S) :
    compD (.tp [.nm i, .nm j]) tTrue ε (eCs cs) Γ S = .ok ((cs.map cMsg).map eM) S := by
  rw [comp_cases (fun c => eM (cMsg c)) cs h, List.map_map]; rfl
theorem inner_nil (nd : Nd) (h : isC nd = false) : inner nd = [] := by cases nd <;> first | rfl | cases h
theorem inner_facts (nd : Nd) : ∀ m ∈ inner nd, lH m + 1 ≤ nH nd ∧ lW m ≤ nW nd := fun m hm => by
  have key : ∀ (cs : List Cs) (o : List Nd), m ∈ cs.map cMsg ++ [o] → lH m ≤ max (csH cs) (lH o) ∧ lW m ≤ csW cs + lW o := fun cs o h => by
    rcases List.mem_append.mp h with h | h
    · obtain ⟨c, hc, rfl⟩ := List.mem_map.mp h
      have a2 := mem_csH hc
      have a3 := mem_csW hc
      cases c with
      | mk k m2 =>
        rw [cH] at a2
        rw [cW] at a3
        simp only [cMsg]
        omega
    · obtain rfl := List.mem_singleton.mp h
      omega
  cases nd with
  | text x => cases hm
  | shw x => cases hm
  | num => cases hm
  | sel x cs o => have := key cs o hm; rw [nH, nW]; omega
  | plu x f cs o => have := key cs o hm; rw [nH, nW]; omega
theorem inner_len (nd : Nd) (hw : nW nd ≤ 5000000) : (inner nd).length ≤ 5000000 := by
  cases nd with
  | text x => exact Nat.zero_le _
  | shw x => exact Nat.zero_le _
  | num => exact Nat.zero_le _
  | sel x cs o =>
    have cl := csW_len cs
    rw [nW] at hw
    simp [inner]; omega
  | plu x f cs o =>
    have cl := csW_len cs
    rw [nW] at hw
    simp [inner]; omega
theorem s0 : ¬ sizeLine = 0 := by decide

end
section
open PySem L2 DL
/-! ### messages that are drawn by rows (id 1005) -/
def T2 : List Str := ["", "a", "b", "1", "2"]
def S2 : List Str := ["n", "x", "w"]
def H2 : List Ky := [.s "he", .s "she"]
def P2 : List Ky := [.i 0, .i 1, .i 3, .s "one", .s "few", .s "many"]
def Q2 : List Str := ["m", "n"]
mutual
def wfN : Bool → Nd → Prop
  | _, .text x => True
  | _, .shw n => n ∈ S2
  | ins, .num => ins = true
  | ins, .sel n cs o => n = "w" ∧ (cs.map cKey).Sublist H2 ∧ wfCs ins cs ∧ wfL ins o
  | _, .plu n f cs o => n ∈ Q2 ∧ f ∈ ([0, 1, 2] : List Int) ∧ (cs.map cKey).Sublist P2 ∧ wfCs true cs ∧ wfL true o
def wfL : Bool → List Nd → Prop
  | _, [] => True
  | ins, n :: r => wfN ins n ∧ wfL ins r
def wfC : Bool → Cs → Prop
  | ins, .mk _ m => wfL ins m
def wfCs : Bool → List Cs → Prop
  | _, [] => True
  | ins, c :: r => wfC ins c ∧ wfCs ins r
end
theorem wfL_app {ins : Bool} {a b : List Nd} (h : wfL ins a) (k : wfL ins b) : wfL ins (a ++ b) := by
  induction a with
  | nil => exact k
  | cons x r ih => rw [wfL] at h; rw [List.cons_append, wfL]; exact ⟨h.1, ih h.2⟩
theorem wfL_one {ins : Bool} {n : Nd} (h : wfN ins n) : wfL ins [n] := by rw [wfL, wfL]; exact ⟨h, trivial⟩
theorem wfCs_app {ins : Bool} {a b : List Cs} (h : wfCs ins a) (k : wfCs ins b) : wfCs ins (a ++ b) := by
  induction a with
  | nil => exact k
  | cons x r ih => rw [wfCs] at h; rw [List.cons_append, wfCs]; exact ⟨h.1, ih h.2⟩
structure GM (d w : Nat) (ins : Bool) (m : List Nd) : Prop where
  wf : wfL ins m
  ok : lOk m = true
  h : lH m ≤ d
  w : lW m ≤ w
/-- some of the cases Ks, each with a message -/
structure GS (d w : Nat) (ins : Bool) (Ks : List Ky) (cs : List Cs) : Prop where
  wf : wfCs ins cs
  ks : (cs.map cKey).Sublist Ks
  ok : csOk cs = true
  h : csH cs ≤ d
  w : csW cs ≤ Ks.length * (w + 100)
theorem GS.nil (d w : Nat) (ins : Bool) : GS d w ins [] [] := ⟨by rw [wfCs]; trivial, List.nil_sublist _, by rw [csOk], by rw [csH]; omega, by rw [csW]; omega⟩
theorem GS.skip {d w : Nat} {ins : Bool} {Ks : List Ky} {cs : List Cs} (h : GS d w ins Ks cs) (k : Ky) : GS d w ins (k :: Ks) cs := ⟨h.wf, h.ks.trans (List.sublist_cons_self _ _), h.ok, h.h, by have := h.w; rw [List.length_cons, Nat.succ_mul]; omega⟩
theorem GS.cons {d w : Nat} {ins : Bool} {Ks : List Ky} {cs : List Cs} {k : Ky} {m : List Nd} (h : GS d w ins Ks cs) (hk : kOk k = true) (hkw : kW k ≤ 70) (hm : GM d w ins m) : GS d w ins (k :: Ks) (.mk k m :: cs) where
  wf := by rw [wfCs, wfC]; exact ⟨hm.wf, h.wf⟩
  ks := by rw [List.map_cons]; exact List.Sublist.cons₂ k h.ks
  ok := by rw [csOk, cOk, hk, hm.ok, h.ok]; rfl
  h := by have := h.h; have := hm.h; rw [csH, cH]; omega
  w := by have := h.w; have := hm.w; rw [csW, cW, List.length_cons, Nat.succ_mul]; omega
def kFit (Ks : List Ky) : Prop := ∀ k ∈ Ks, kOk k = true ∧ kW k ≤ 70
theorem H2_ok : kFit H2 := by
  have h : H2.all (fun x => kOk x && decide (kW x ≤ 70)) = true := by decide +kernel
  intro x hx
  have := List.all_eq_true.mp h x hx
  simpa using this
theorem P2_ok : kFit P2 := by
  have h : P2.all (fun x => kOk x && decide (kW x ≤ 70)) = true := by decide +kernel
  intro x hx
  have := List.all_eq_true.mp h x hx
  simpa using this
theorem strs_ok2 : ∀ x ∈ T2 ++ S2 ++ Q2 ++ [("w" : Str)], sOk x = true ∧ x.length ≤ 10 := by
  have h : (T2 ++ S2 ++ Q2 ++ [("w" : Str)]).all (fun x => sOk x && decide (x.length ≤ 10)) = true := by decide +kernel
  intro x hx
  have := List.all_eq_true.mp h x hx
  simpa using this
def numsD (q : List Str) : D := .lst (q.map .str)
/-- what a message's maker promises -/
def MkM (r : List D) (q : List Str) (R : Rec) (d w : Nat) : Prop := ∀ (ins : Bool) (S : List D), BxR r S → ∃ (m : List Nd) (S' : List D), R 1005 [.ptr 0, .int d, .bl ins, numsD q] S = .ok (eM m) S' ∧ BxR r S' ∧ GM d w ins m
section
variable {r : List D} {q : List Str}
theorem sel_comp (n d w : Nat) (ins : Bool) (hM : MkM r q (run (n + 1)) d w) (v4 v5 v6 v7 v8 v9 : Sl) : ∀ (Ks : List Str) (S : List D), kFit (Ks.map Ky.s) → BxR r S →
    ∃ cs S', compD (.nm 10) (tB (eOp oGt (eCall (run (n + 1) 1003) (aCons (eV 0) (aCons (eC (.int 3)) aNil))) (eC (.int 0)))) (C_1005_1 (run (n + 1))) (Ks.map D.str) [.val (.ptr 0), .val (.int ((d : Int) + 1)), .val (.bl ins), .val (numsD q), v4, v5, v6, v7, v8, v9, .non] S = .ok (eCs cs) S' ∧ BxR r S' ∧ GS d w ins (Ks.map Ky.s) cs
  | [], S, _, hS => ⟨[], S, by rw [eCs]; rfl, hS, GS.nil _ _ _⟩
  | k :: Ks, S, hk, hS => by
    obtain ⟨a, S1, h1, hS1, a0, _⟩ := run_draw n 3 (by decide) S hS
    have hk2 : kFit (Ks.map Ky.s) := fun x hx => hk x (List.mem_cons_of_mem _ hx)
    obtain ⟨k1, k2⟩ := hk (.s k) List.mem_cons_self
    rw [List.map_cons, compD]
    by_cases ha : 0 < a
    · obtain ⟨m, S2, h2, hS2, gm⟩ := hM ins S1 hS1
      obtain ⟨cs, S3, h3, hS3, gc⟩ := sel_comp n d w ins hM v4 v5 v6 v7 v8 v9 Ks S2 hk2 hS2
      refine ⟨.mk (.s k) m :: cs, S3, ?_, hS3, gc.cons k1 k2 gm⟩
      have sb : ((d : Int) + 1 - 1) = (d : Int) := by omega
      unfold eM at h2
      simp [h1, ha, e_C_1005_1, sb, h2, nox]
      simp [h3, eCs, eC1, eK]
    · obtain ⟨cs, S3, h3, hS3, gc⟩ := sel_comp n d w ins hM v4 v5 v6 v7 v8 v9 Ks S1 hk2 hS1
      refine ⟨cs, S3, ?_, hS3, gc.skip _⟩
      simp [h1, ha, nox]
      exact h3
theorem plu_loop (n d w : Nat) (v2 v4 v5 v6 v9 v10 : Sl) (hM : MkM r q (run (n + 1)) d w) : ∀ (Ks : List Ky) (acc : List Cs) (S : List D), kFit Ks → BxR r S → acc.length + Ks.length ≤ 1000 →
    ∃ cs S', forD (.nm 8) [8] (L_1005_2 (run (n + 1))) (Ks.map eK) [.val (.ptr 0), .val (.int ((d : Int) + 1)), v2, .val (numsD q), v4, v5, v6, .own (.lst (eCs acc)), .non, v9, v10] S = .next [.val (.ptr 0), .val (.int ((d : Int) + 1)), v2, .val (numsD q), v4, v5, v6, .own (.lst (eCs (acc ++ cs))), .non, v9, v10] S' ∧ BxR r S' ∧ GS d w true Ks cs
  | [], acc, S, _, hS, _ => ⟨[], S, by rw [List.append_nil]; rfl, hS, GS.nil _ _ _⟩
  | k :: Ks, acc, S, hk, hS, hl => by
    rw [List.length_cons] at hl
    obtain ⟨a, S1, h1, hS1, a0, _⟩ := run_draw n 4 (by decide) S hS
    have hk2 : kFit Ks := fun x hx => hk x (List.mem_cons_of_mem _ hx)
    obtain ⟨k1, k2⟩ := hk k List.mem_cons_self
    have hsz : acc.length < sizeLine := Nat.lt_of_lt_of_le (show acc.length < 1001 by omega) (by decide)
    rw [List.map_cons, forD]
    by_cases ha : a = 0
    · subst ha
      obtain ⟨m, S2, h2, hS2, gm⟩ := hM true S1 hS1
      obtain ⟨cs, S3, h3, hS3, gc⟩ := plu_loop n d w v2 v4 v5 v6 v9 v10 hM Ks (acc ++ [.mk k m]) S2 hk2 hS2 (by rw [List.length_append, List.length_singleton]; omega)
      refine ⟨.mk k m :: cs, S3, ?_, hS3, gc.cons k1 k2 gm⟩
      have sb : ((d : Int) + 1 - 1) = (d : Int) := by omega
      have e2 : eCs acc ++ [.tup [eK k, .lst (eL m)]] = eCs (acc ++ [.mk k m]) := by rw [eCs_app, eCs_one, eC1]
      have e3 : acc ++ .mk k m :: cs = (acc ++ [.mk k m]) ++ cs := by rw [List.append_assoc]; rfl
      unfold eM at h2
      rw [e3]
      simp [e_L_1005_2, h1, sb, h2, hsz, e2]
      simpa using h3
    · have ha2 : (a == 0) = false := by simpa using ha
      obtain ⟨cs, S3, h3, hS3, gc⟩ := plu_loop n d w v2 v4 v5 v6 v9 v10 hM Ks acc S1 hk2 hS1 (by omega)
      refine ⟨cs, S3, ?_, hS3, gc.skip _⟩
      simp [e_L_1005_2, h1, ha, ha2]
      exact h3
/-- one node -/
def msgG (q : List Str) (d : Nat) (ins : Bool) (m : List Nd) : List Sl := [.val (.ptr 0), .val (.int (d : Int)), .val (.bl ins), .val (numsD q), .own (.lst (eL m)), .non, .non, .non, .non, .non, .non]
structure GJ (d v : Nat) (ins : Bool) (j : Nat) (m : List Nd) : Prop where
  g : GM d (j * v) ins m
  l : m.length ≤ j
theorem GJ.nil (d v : Nat) (ins : Bool) : GJ d v ins 0 [] := ⟨⟨by rw [wfL]; trivial, by rw [lOk], by rw [lH]; omega, by rw [lW]; omega⟩, Nat.le_refl _⟩
theorem GJ.snoc {d v j : Nat} {ins : Bool} {m : List Nd} {n : Nd} (h : GJ d v ins j m) (hw : wfN ins n) (ho : nOk n = true) (hh : nH n ≤ d) (hv : nW n ≤ v) : GJ d v ins (j + 1) (m ++ [n]) where
  g := ⟨wfL_app h.g.wf (wfL_one hw), by rw [lOk_app, h.g.ok, lOk, lOk, ho]; rfl, by have := h.g.h; rw [lH_app, lH, lH]; omega, by have := h.g.w; rw [lW_app, lW_one, Nat.succ_mul]; omega⟩
  l := by have := h.l; rw [List.length_append]; show m.length + 1 ≤ _; omega
theorem clr5 {a b c e f : Sl} (g h i j k l : Sl) : clr [5, 6, 7, 8, 9] [a, b, c, e, f, g, h, i, j, k, .non] = [a, b, c, e, f, .non, .non, .non, .non, .non, .non] := rfl
theorem msg_step (k d w v j : Nat) (hq : q ≠ []) (hq2 : ∀ x ∈ q, x ∈ Q2) (hv : 140 ≤ v) (ins : Bool) (hM : ∀ d', d = d' + 1 → MkM r q (run (k + 1)) d' w ∧ 10 * (w + 110) ≤ v) (m : List Nd) (S : List D) (t : D) (hS : BxR r S) (hj : j ≤ 3) (h : GJ d v ins j m) :
    WT (L_1005_3 (run (k + 1)) ((msgG q d ins m).set 5 (.val t)) S) (fun Γ2 S2 => ∃ m2, clr [5, 6, 7, 8, 9] Γ2 = msgG q d ins m2 ∧ BxR r S2 ∧ GJ d v ins (j + 1) m2) (fun _ _ => False) (fun _ _ => False) := by
  obtain ⟨a, S1, h1, hS1, a0, a8⟩ := run_draw k 8 (by decide) S hS
  have hl : m.length < sizeLine := Nat.lt_of_lt_of_le (show m.length < 1001 by have := h.l; omega) (by decide)
  have e1 : ∀ n, eL m ++ [eN n] = eL (m ++ [n]) := fun n => by rw [eL_app, eL_one]
  have st : ∀ x, x ∈ T2 ∨ x ∈ S2 ∨ x ∈ Q2 ∨ x = "w" → sOk x = true ∧ x.length ≤ 10 := fun x hx => strs_ok2 x (by
    rcases hx with z | z | z | z
    · exact List.mem_append_left _ (List.mem_append_left _ (List.mem_append_left _ z))
    · exact List.mem_append_left _ (List.mem_append_left _ (List.mem_append_right _ z))
    · exact List.mem_append_left _ (List.mem_append_right _ z)
    · exact List.mem_append_right _ (List.mem_singleton.mpr z))
  unfold msgG
  rw [e_L_1005_3]
  by_cases c1 : 0 < d ∧ a < 2
  · obtain ⟨c0, c1⟩ := c1
    obtain ⟨d', rfl⟩ : ∃ d', d = d' + 1 := ⟨d - 1, by omega⟩
    obtain ⟨hm, hv2⟩ := hM d' rfl
    obtain ⟨cs, S2, h2, hS2, gc⟩ := sel_comp k d' w ins hm (.own (.lst (eL m))) (.val t) (.val (.int a)) .non .non .non (["he", "she"] : List Str) S1 H2_ok hS1
    obtain ⟨o, S3, h3, hS3, go⟩ := hm ins S2 hS2
    have sb : ((d' : Int) + 1 - 1) = (d' : Int) := by omega
    have dp : (0 : Int) < (d' : Int) + 1 := by omega
    have cl := csW_len cs
    have cw := gc.w
    have l2 : ((["he", "she"] : List Str).map Ky.s).length = 2 := rfl
    rw [l2] at cw
    have ow := go.w
    have lk : lenOk (eCs cs) = some (.lst (eCs cs)) := lenOk_le (by rw [eCs_len]; have := gc.ks.length_le; rw [List.length_map, l2] at this; omega)
    have ex := e1 (.sel "w" cs o)
    have en : eN (.sel "w" cs o) = .tup [.str "select", .str "w", .lst (eCs cs), .lst (eL o)] := by rw [eN]
    rw [en] at ex
    unfold eM at h3
    simp [h1, c1, dp, sb, WT] at h2 ⊢
    simp [h2, lk, h3, sb, hl, ex]
    refine ⟨_, rfl, hS3, h.snoc ?_ ?_ ?_ ?_⟩
    · rw [wfN]; exact ⟨rfl, gc.ks, gc.wf, go.wf⟩
    · rw [nOk, (st "w" (.inr (.inr (.inr rfl)))).1, gc.ok, go.ok]; rfl
    · have := gc.h; have := go.h; rw [nH]; omega
    · have := (st "w" (.inr (.inr (.inr rfl)))).2; rw [nW]; omega
  · by_cases c2 : 0 < d ∧ a < 5
    · obtain ⟨c0, c2⟩ := c2
      obtain ⟨d', rfl⟩ : ∃ d', d = d' + 1 := ⟨d - 1, by omega⟩
      have c3 : ¬ a < 2 := fun z => c1 ⟨by omega, z⟩
      obtain ⟨hm, hv2⟩ := hM d' rfl
      obtain ⟨cs, S2, h2, hS2, gc⟩ := plu_loop k d' w (.val (.bl ins)) (.own (.lst (eL m))) (.val t) (.val (.int a)) .non .non hm P2 [] S1 P2_ok hS1 (by decide)
      rw [List.nil_append] at h2
      obtain ⟨b, S3, h3, hS3, b0, b9⟩ := run_draw k 900 (by decide) S2 hS2
      have ql : 0 < (q.length : Int) := by have := List.length_pos_iff.mpr hq; omega
      obtain ⟨x, hx, e⟩ := pickS (xs := q) (r := b % (q.length : Int)) (Int.emod_nonneg _ (by omega)) (Int.emod_lt_of_pos _ ql)
      obtain ⟨u, S4, h4, hS4, u0, u4⟩ := run_draw k 4 (by decide) S3 hS3
      obtain ⟨f, hf2, ef⟩ := pickI (xs := [0, 0, 1, 2]) u0 (by exact u4)
      have ef2 : atI [D.int 0, .int 0, .int 1, .int 2] u = some (.int f) := ef
      obtain ⟨o, S5, h5, hS5, go⟩ := hm true S4 hS4
      have sb : ((d' : Int) + 1 - 1) = (d' : Int) := by omega
      have dp : (0 : Int) < (d' : Int) + 1 := by omega
      have fo : iOk f = true ∧ (toString f : Str).length ≤ 10 ∧ f ∈ ([0, 1, 2] : List Int) := by
        have h : ([0, 0, 1, 2] : List Int).all (fun f => iOk f && decide ((toString f : Str).length ≤ 10) && decide (f ∈ ([0, 1, 2] : List Int))) = true := by decide +kernel
        have := List.all_eq_true.mp h f hf2
        simpa [and_assoc] using this
      have cw := gc.w
      have l2 : P2.length = 6 := rfl
      rw [l2] at cw
      have ow := go.w
      have xs := st x (.inr (.inr (.inl (hq2 x hx))))
      have ex := e1 (.plu x f cs o)
      have en : eN (.plu x f cs o) = .tup [.str "plural", .str x, .int f, .lst (eCs cs), .lst (eL o)] := by rw [eN]
      rw [en] at ex
      have nl : numsD q = .lst (q.map .str) := rfl
      have pk : P2.map eK = [.int 0, .int 1, .int 3, .str "one", .str "few", .str "many"] := rfl
      unfold eM at h5
      rw [pk, eCs_nil] at h2
      rw [nl] at h2 h5
      simp [h1, c2, c3, dp, sb, WT, nl] at h2 h5 ⊢
      simp [h2, h3, List.length_pos_iff.mpr hq, e, h4, ef2, h5, sb, hl, ex]
      refine ⟨_, rfl, hS5, h.snoc ?_ ?_ ?_ ?_⟩
      · rw [wfN]; exact ⟨hq2 x hx, fo.2.2, gc.ks, gc.wf, go.wf⟩
      · rw [nOk, xs.1, fo.1, gc.ok, go.ok]; rfl
      · have := gc.h; have := go.h; rw [nH]; omega
      · have := xs.2; have := fo.2.1; rw [nW]; omega
    · have tail : WT (sIf (tAndD (tB (eOp cEq (eV 6) (eC (.int 5)))) (tTru (eV 2))) (sAppO 4 (eTup (aCons (eC (.str "number")) aNil))) (sIf (tB (eOp cEq (eV 6) (eC (.int 6)))) (sAppO 4 (eTup (aCons (eC (.str "show")) (aCons (eOp dIdx (eLst (aCons (eC (.str "n")) (aCons (eC (.str "x")) (aCons (eC (.str "w")) aNil)))) (eCall (run (k + 1) 1003) (aCons (eV 0) (aCons (eC (.int 3)) aNil)))) aNil)))) (sAppO 4 (eTup (aCons (eC (.str "text")) (aCons (eOp dIdx (eLst (aCons (eC (.str "")) (aCons (eC (.str "a")) (aCons (eC (.str "b")) (aCons (eC (.str "1")) (aCons (eC (.str "2")) aNil)))))) (eCall (run (k + 1) 1003) (aCons (eV 0) (aCons (eC (.int 5)) aNil)))) aNil)))))
          [.val (.ptr 0), .val (.int (d : Int)), .val (.bl ins), .val (numsD q), .own (.lst (eL m)), .val t, .val (.int a), .non, .non, .non, .non] S1)
          (fun Γ2 S2 => ∃ m2, clr [5, 6, 7, 8, 9] Γ2 = msgG q d ins m2 ∧ BxR r S2 ∧ GJ d v ins (j + 1) m2) (fun _ _ => False) (fun _ _ => False) := by
        have num : a = 5 → ins = true → WT (sAppO 4 (eTup (aCons (eC (.str "number")) aNil)) [.val (.ptr 0), .val (.int (d : Int)), .val (.bl ins), .val (numsD q), .own (.lst (eL m)), .val t, .val (.int a), .non, .non, .non, .non] S1)
            (fun Γ2 S2 => ∃ m2, clr [5, 6, 7, 8, 9] Γ2 = msgG q d ins m2 ∧ BxR r S2 ∧ GJ d v ins (j + 1) m2) (fun _ _ => False) (fun _ _ => False) := fun z1 z2 => by
          subst z1 z2
          have ex := e1 .num
          have en : eN .num = .tup [.str "number"] := by rw [eN]
          rw [en] at ex
          simp [hl, ex, WT]
          exact ⟨_, rfl, hS1, h.snoc (by rw [wfN]) (by rw [nOk]) (by rw [nH]; omega) (by rw [nW]; omega)⟩
        have shw : a = 6 → WT (sAppO 4 (eTup (aCons (eC (.str "show")) (aCons (eOp dIdx (eLst (aCons (eC (.str "n")) (aCons (eC (.str "x")) (aCons (eC (.str "w")) aNil)))) (eCall (run (k + 1) 1003) (aCons (eV 0) (aCons (eC (.int 3)) aNil)))) aNil))) [.val (.ptr 0), .val (.int (d : Int)), .val (.bl ins), .val (numsD q), .own (.lst (eL m)), .val t, .val (.int a), .non, .non, .non, .non] S1)
            (fun Γ2 S2 => ∃ m2, clr [5, 6, 7, 8, 9] Γ2 = msgG q d ins m2 ∧ BxR r S2 ∧ GJ d v ins (j + 1) m2) (fun _ _ => False) (fun _ _ => False) := fun _ => by
          obtain ⟨b, S2, h2, hS2, b0, b3⟩ := run_draw k 3 (by decide) S1 hS1
          obtain ⟨x, hx, e⟩ := pickS (xs := PV.S2) b0 (by exact b3)
          have e2 : atI [D.str "n", .str "x", .str "w"] b = some (.str x) := e
          have xs := st x (.inr (.inl hx))
          have ex := e1 (.shw x)
          have en : eN (.shw x) = .tup [.str "show", .str x] := by rw [eN]
          rw [en] at ex
          simp [h2, e2, hl, ex, WT]
          exact ⟨_, rfl, hS2, h.snoc (by rw [wfN]; exact hx) (by rw [nOk]; exact xs.1) (by rw [nH]; omega) (by have := xs.2; rw [nW]; omega)⟩
        have txt : WT (sAppO 4 (eTup (aCons (eC (.str "text")) (aCons (eOp dIdx (eLst (aCons (eC (.str "")) (aCons (eC (.str "a")) (aCons (eC (.str "b")) (aCons (eC (.str "1")) (aCons (eC (.str "2")) aNil)))))) (eCall (run (k + 1) 1003) (aCons (eV 0) (aCons (eC (.int 5)) aNil)))) aNil))) [.val (.ptr 0), .val (.int (d : Int)), .val (.bl ins), .val (numsD q), .own (.lst (eL m)), .val t, .val (.int a), .non, .non, .non, .non] S1)
            (fun Γ2 S2 => ∃ m2, clr [5, 6, 7, 8, 9] Γ2 = msgG q d ins m2 ∧ BxR r S2 ∧ GJ d v ins (j + 1) m2) (fun _ _ => False) (fun _ _ => False) := by
          obtain ⟨b, S2, h2, hS2, b0, b3⟩ := run_draw k 5 (by decide) S1 hS1
          obtain ⟨x, hx, e⟩ := pickS (xs := T2) b0 (by exact b3)
          have e2 : atI [D.str "", .str "a", .str "b", .str "1", .str "2"] b = some (.str x) := e
          have xs := st x (.inl hx)
          have ex := e1 (.text x)
          have en : eN (.text x) = .tup [.str "text", .str x] := by rw [eN]
          rw [en] at ex
          simp [h2, e2, hl, ex, WT]
          exact ⟨_, rfl, hS2, h.snoc (by rw [wfN]; trivial) (by rw [nOk]; exact xs.1) (by rw [nH]; omega) (by have := xs.2; rw [nW]; omega)⟩
        by_cases c5 : a = 5
        · subst c5
          cases ins with
          | true => simpa using num rfl rfl
          | false => simpa using txt
        · have c5b : (a == 5) = false := by simpa using c5
          by_cases c6 : a = 6
          · subst c6
            simpa using shw rfl
          · have c6b : (a == 6) = false := by simpa using c6
            simpa [c5, c5b, c6, c6b] using txt
      by_cases dz : 0 < d
      · have c3 : ¬ a < 2 := fun z => c1 ⟨dz, z⟩
        have c4 : ¬ a < 5 := fun z => c2 ⟨dz, z⟩
        simp [h1, dz, c3, c4] at tail ⊢
        exact tail
      · simp [h1, dz] at tail ⊢
        exact tail
theorem msg_run (k d w v : Nat) (hq : q ≠ []) (hq2 : ∀ x ∈ q, x ∈ Q2) (hv : 140 ≤ v) (ins : Bool) (hM : ∀ d', d = d' + 1 → MkM r q (run (k + 1)) d' w ∧ 10 * (w + 110) ≤ v) (S : List D) (hS : BxR r S) : ∃ (m : List Nd) (S' : List D), run (k + 2) 1005 [.ptr 0, .int d, .bl ins, numsD q] S = .ok (eM m) S' ∧ BxR r S' ∧ GM d (2 * v) ins m := by
  rw [run_1005]
  obtain ⟨a, S1, h1, hS1, a0, a2⟩ := run_draw k 2 (by decide) S hS
  have ia : inR (1 + a) = true := inR_of (by omega)
  have lp := forD_wp (p := .nm 5) (kl := [5, 6, 7, 8, 9]) (β := L_1005_3 (run (k + 1))) (R := fun _ _ => False) (N := fun Γ S2 => ∃ m2, Γ = msgG q d ins m2 ∧ BxR r S2 ∧ GJ d v ins (1 + a).toNat m2)
    (fun j Γ S2 => ∃ m2, Γ = msgG q d ins m2 ∧ BxR r S2 ∧ GJ d v ins j m2) (rangeD 0 (1 + a).toNat) 0 (msgG q d ins []) S1 ⟨[], rfl, hS1, GJ.nil _ _ _⟩
    (fun j x Γ S2 hx ⟨m2, hΓ, hS2, hg⟩ => by
      subst hΓ
      rw [Nat.zero_add] at hg
      have hj : j < (rangeD 0 (1 + a).toNat).length := (List.getElem?_eq_some_iff.mp hx).1
      rw [rangeD_len] at hj
      refine ⟨_, x_bnm, ?_⟩
      rw [Nat.zero_add]
      exact (msg_step k d w v j hq hq2 hv ins hM m2 S2 x hS2 (by omega) hg).mono (fun _ _ h => h) (fun _ _ h => h) (fun _ _ h => h.elim))
    (fun Γ S2 h => by rw [rangeD_len, Nat.zero_add] at h; exact h)
  revert lp
  generalize hf : forD (.nm 5) [5, 6, 7, 8, 9] (L_1005_3 (run (k + 1))) (rangeD 0 (1 + a).toNat) (msgG q d ins []) S1 = o
  intro lp
  unfold msgG at hf
  rw [eL_nil] at hf
  cases o with
  | next Γ S2 =>
    obtain ⟨m2, rfl, hS2, hg⟩ := lp
    refine ⟨m2, S2, ?_, hS2, hg.g.wf, hg.g.ok, hg.g.h, ?_⟩
    · unfold msgG at hf
      simp [B_1005, h1, ia, hf, eM]
    · have := hg.g.w
      exact Nat.le_trans this (Nat.mul_le_mul_right _ (by omega))
  | _ => exact lp.elim
end
def wM : Nat → Nat
  | 0 => 2 * 140
  | d + 1 => 2 * (10 * (wM d + 110))
theorem mkM {r : List D} {q : List Str} (hq : q ≠ []) (hq2 : ∀ x ∈ q, x ∈ Q2) : ∀ (d n : Nat), d + 2 ≤ n → MkM r q (run n) d (wM d) := by
  intro d
  induction d with
  | zero =>
    intro n hn ins S hS
    obtain ⟨k, rfl⟩ : ∃ k, n = k + 2 := ⟨n - 2, by omega⟩
    exact msg_run k 0 0 140 hq hq2 (by omega) ins (fun d' e => by omega) S hS
  | succ d ih =>
    intro n hn ins S hS
    obtain ⟨k, rfl⟩ : ∃ k, n = k + 2 := ⟨n - 2, by omega⟩
    exact msg_run k (d + 1) (wM d) (10 * (wM d + 110)) hq hq2 (by omega) ins (fun d' e => by { have z : d' = d := (by omega); subst z; exact ⟨ih (k + 1) (by omega), Nat.le_refl _⟩ }) S hS
theorem wM1 : wM 1 = 7800 := by decide
theorem wM2 : wM 2 = 158200 := by decide

end
section
open PySem L2 DL
/-! ### places of messages: keys, cases, paths -/
instance decKy : DecidableEq Ky := fun a b => match a, b with
  | .i m, .i n => if h : m = n then .isTrue (by rw [h]) else .isFalse (fun z => h (by cases z; rfl))
  | .s m, .s n => if h : m = n then .isTrue (by rw [h]) else .isFalse (fun z => h (by cases z; rfl))
  | .i _, .s _ => .isFalse (fun z => by cases z)
  | .s _, .i _ => .isFalse (fun z => by cases z)
def PK : List Ky := [.i 0, .i 1, .i 3, .s "one", .s "few", .s "many", .s "he", .s "she", .s "other", .i 7, .s "it"]
def otK : Ky := .s "other"
theorem eK_inj {a b : Ky} : eK a = eK b ↔ a = b := by
  cases a <;> cases b <;> simp [eK]
def toKey : Ky → Key
  | .i n => .inl n
  | .s x => .inr x
theorem toKey_inj {a b : Ky} : toKey a = toKey b ↔ a = b := by
  cases a <;> cases b <;> simp [toKey]
@[simp] theorem keyD_K (k : Ky) : keyD (eK k) = some (toKey k) := by cases k <;> rfl
theorem PK_ok : ∀ k ∈ PK, kOk k = true ∧ kW k ≤ 70 := by
  have h : PK.all (fun x => kOk x && decide (kW x ≤ 70)) = true := by decide +kernel
  intro x hx
  have := List.all_eq_true.mp h x hx
  simpa using this
theorem dEq_K {a b : Ky} (ha : a ∈ PK) (hb : b ∈ PK) : dEq (eK a) (eK b) = some (decide (a = b)) := by
  haveI : Decidable (eK a = eK b) := decidable_of_iff _ eK_inj.symm
  rw [dEq_B (kOk_B a (PK_ok a ha).1) (kOk_B b (PK_ok b hb).1) (by rw [kDep]; decide) (by rw [kDep]; decide)]
  congr 1
  exact decide_eq_decide.mpr eK_inj
theorem cEq_K {a b : Ky} (ha : a ∈ PK) (hb : b ∈ PK) : cEq (eK a) (eK b) = some (.bl (decide (a = b))) := by unfold cEq; rw [dEq_K ha hb]; rfl
theorem otK_in : otK ∈ PK := by decide
theorem cEq_ot {a : Ky} (ha : a ∈ PK) : cEq (eK a) (.str "other") = some (.bl (decide (a = otK))) := cEq_K ha otK_in
def rk : Ky → Str
  | .i n => toString n
  | .s x => reprText x
theorem rk_ok : ∀ k ∈ PK, dReprA (eK k) = some (.str (rk k)) := by
  have h : PK.all (fun k => match k with | .i n => decide (n.natAbs.log2 < 1920) | .s x => decide ((reprText x).length ≤ 1000)) = true := by decide +kernel
  intro k hk
  have := List.all_eq_true.mp h k hk
  cases k with
  | i n => exact if_pos (of_decide_eq_true this)
  | s x => exact if_pos (Nat.le_trans (of_decide_eq_true this) (by decide))
theorem rk_eq : ∀ a ∈ PK, ∀ b ∈ PK, (rk a == rk b) = decide (a = b) := by
  have h : PK.all (fun a => PK.all fun b => (rk a == rk b) == decide (a = b)) = true := by decide +kernel
  intro a ha b hb
  have := List.all_eq_true.mp (List.all_eq_true.mp h a ha) b hb
  exact eq_of_beq this
theorem same_K (n : Nat) {a b : Ky} (ha : a ∈ PK) (hb : b ∈ PK) (S : List D) : run (n + 1) 1004 [eK a, eK b] S = .ok (.bl (decide (a = b))) S := by
  rw [run_1004]
  simp [B_1004, rk_ok a ha, rk_ok b hb, rk_eq a ha b hb]
theorem same_D (n : Nat) {d : D} {t : Str} (S : List D) (hd : deref S d = d) (h : dReprA d = some (.str t)) : run (n + 1) 1004 [d, d] S = .ok (.bl true) S := by
  rw [run_1004]
  simp [B_1004, hd, h]
/-- the case of a key -/
def lkC : List Cs → Ky → Option (List Nd)
  | [], _ => none
  | .mk q m :: r, k => if q = k then some m else lkC r k
def casesO : Nd → Option (List Cs × List Nd)
  | .sel _ cs o => some (cs, o)
  | .plu _ _ cs o => some (cs, o)
  | _ => none
def nodeAt (nd : Nd) (k : Ky) : Option (List Nd) := match casesO nd with
  | none => none
  | some (cs, o) => if k = otK then some o else lkC cs k
def at1 (m : List Nd) (i : Int) (k : Ky) : Option (List Nd) := if 0 ≤ i ∧ i < m.length then (m[i.toNat]?).bind fun nd => nodeAt nd k else none
def atP : List Nd → List (Int × Ky) → Option (List Nd)
  | m, [] => some m
  | m, (i, k) :: p => (at1 m i k).bind fun m1 => atP m1 p
def oD : Option (List Nd) → D
  | some m => eM m
  | none => .non
def eS (q : Int × Ky) : D := .tup [.int q.1, eK q.2]
def ePa (p : List (Int × Ky)) : List D := p.map eS
/-- the keys of a choice: all differ, none is other -/
structure KOk (cs : List Cs) : Prop where
  nd : (cs.map cKey).Nodup
  pk : ∀ k ∈ cs.map cKey, k ∈ PK ∧ k ≠ otK
theorem KOk.of {cs : List Cs} {Ks : List Ky} (h : (cs.map cKey).Sublist Ks) (hn : Ks.Nodup) (hp : ∀ k ∈ Ks, k ∈ PK ∧ k ≠ otK) : KOk cs := ⟨h.nodup hn, fun k hk => hp k (h.subset hk)⟩
theorem H2_K : H2.Nodup ∧ ∀ k ∈ H2, k ∈ PK ∧ k ≠ otK := by decide
theorem P2_K : P2.Nodup ∧ ∀ k ∈ P2, k ∈ PK ∧ k ≠ otK := by decide
theorem wf_K {ins : Bool} {nd : Nd} (h : wfN ins nd) {cs : List Cs} {o : List Nd} (e : casesO nd = some (cs, o)) : KOk cs := by
  cases nd with
  | sel n cs' o' => cases e; rw [wfN] at h; exact KOk.of h.2.1 H2_K.1 H2_K.2
  | plu n f cs' o' => cases e; rw [wfN] at h; exact KOk.of h.2.2.1 P2_K.1 P2_K.2
  | _ => cases e
mutual
theorem wfN_mono : ∀ (n : Nd), wfN false n → wfN true n
  | .text x, h => by rw [wfN]; trivial
  | .shw x, h => by rw [wfN] at h ⊢; exact h
  | .num, h => by rw [wfN]
  | .sel x cs o, h => by rw [wfN] at h ⊢; exact ⟨h.1, h.2.1, wfCs_mono cs h.2.2.1, wfL_mono o h.2.2.2⟩
  | .plu x f cs o, h => by rw [wfN] at h ⊢; exact h
theorem wfL_mono : ∀ (m : List Nd), wfL false m → wfL true m
  | [], _ => by rw [wfL]; trivial
  | n :: r, h => by rw [wfL] at h ⊢; exact ⟨wfN_mono n h.1, wfL_mono r h.2⟩
theorem wfC_mono : ∀ (n : Cs), wfC false n → wfC true n
  | .mk k m, h => by rw [wfC] at h ⊢; exact wfL_mono m h
theorem wfCs_mono : ∀ (m : List Cs), wfCs false m → wfCs true m
  | [], _ => by rw [wfCs]; trivial
  | n :: r, h => by rw [wfCs] at h ⊢; exact ⟨wfC_mono n h.1, wfCs_mono r h.2⟩
end
theorem wfL_any {ins : Bool} {m : List Nd} (h : wfL ins m) : wfL true m := by cases ins; exact wfL_mono m h; exact h
theorem wfL_mem {ins : Bool} {m : List Nd} (h : wfL ins m) {n : Nd} (hn : n ∈ m) : wfN ins n := by
  induction m with
  | nil => cases hn
  | cons x r ih =>
    rw [wfL] at h
    rcases List.mem_cons.mp hn with rfl | hn
    · exact h.1
    · exact ih h.2 hn
theorem wfCs_mem {ins : Bool} {m : List Cs} (h : wfCs ins m) {n : Cs} (hn : n ∈ m) : wfC ins n := by
  induction m with
  | nil => cases hn
  | cons x r ih =>
    rw [wfCs] at h
    rcases List.mem_cons.mp hn with rfl | hn
    · exact h.1
    · exact ih h.2 hn
theorem lkC_mem : ∀ {cs : List Cs} {k : Ky} {m : List Nd}, lkC cs k = some m → Cs.mk k m ∈ cs
  | [], _, _, h => by rw [lkC] at h; cases h
  | .mk q m' :: r, k, m, h => by
    rw [lkC] at h
    by_cases e : q = k
    · rw [if_pos e] at h; cases h; subst e; exact List.mem_cons_self
    · rw [if_neg e] at h; exact List.mem_cons_of_mem _ (lkC_mem h)
/-- what stands at a place is well formed, no deeper, no greater -/
structure Fit (d w : Nat) (m : List Nd) : Prop where
  wf : wfL true m
  ok : lOk m = true
  h : lH m ≤ d
  w : lW m ≤ w
theorem GM.fit {d w : Nat} {ins : Bool} {m : List Nd} (h : GM d w ins m) : Fit d w m := ⟨wfL_any h.wf, h.ok, h.h, h.w⟩
theorem casesO_facts {nd : Nd} {cs : List Cs} {o : List Nd} (e : casesO nd = some (cs, o)) : ((∃ x, nd = .sel x cs o) ∨ ∃ x f, nd = .plu x f cs o) ∧ isC nd = true := by
  cases nd with
  | sel n cs' o' => cases e; exact ⟨.inl ⟨_, rfl⟩, rfl⟩
  | plu n f cs' o' => cases e; exact ⟨.inr ⟨_, _, rfl⟩, rfl⟩
  | _ => cases e
theorem casesO_none {nd : Nd} (e : casesO nd = none) : isC nd = false := by cases nd <;> first | rfl | cases e
theorem nodeAt_fit {d w : Nat} {nd : Nd} {k : Ky} {m : List Nd} (h1 : wfN true nd) (h2 : nOk nd = true) (h3 : nH nd ≤ d) (h4 : nW nd ≤ w) (e : nodeAt nd k = some m) : Fit d w m := by
  have key : ∀ (cs : List Cs) (o : List Nd), wfCs true cs → wfL true o → csOk cs = true → lOk o = true → max (csH cs) (lH o) + 1 ≤ d → csW cs + lW o ≤ w → (if k = otK then some o else lkC cs k) = some m → Fit d w m := fun cs o a1 a2 a3 a4 a5 a6 e => by
    by_cases z : k = otK
    · rw [if_pos z] at e; cases e
      exact ⟨a2, a4, by omega, by omega⟩
    · rw [if_neg z] at e
      have mm := lkC_mem e
      have b1 := wfCs_mem a1 mm
      have b2 := mem_csOk mm a3
      have b3 := mem_csH mm
      have b4 := mem_csW mm
      rw [wfC] at b1; rw [cOk, Bool.and_eq_true] at b2; rw [cH] at b3; rw [cW] at b4
      exact ⟨b1, b2.2, by omega, by omega⟩
  cases nd with
  | sel n cs o =>
    rw [wfN] at h1; rw [nOk, Bool.and_eq_true, Bool.and_eq_true] at h2; rw [nH] at h3; rw [nW] at h4
    exact key cs o h1.2.2.1 h1.2.2.2 h2.1.2 h2.2 (by omega) (by omega) e
  | plu n f cs o =>
    rw [wfN] at h1; rw [nOk, Bool.and_eq_true, Bool.and_eq_true, Bool.and_eq_true] at h2; rw [nH] at h3; rw [nW] at h4
    exact key cs o h1.2.2.2.1 h1.2.2.2.2 h2.1.2 h2.2 (by omega) (by omega) e
  | _ => cases e
theorem at1_some {m : List Nd} {i : Int} {k : Ky} {r : List Nd} (e : at1 m i k = some r) : 0 ≤ i ∧ i < m.length ∧ ∃ nd, m[i.toNat]? = some nd ∧ nodeAt nd k = some r := by
  unfold at1 at e
  by_cases z : 0 ≤ i ∧ i < m.length
  · rw [if_pos z] at e
    cases q : m[i.toNat]? with
    | none => rw [q] at e; cases e
    | some nd => rw [q] at e; exact ⟨z.1, z.2, nd, rfl, e⟩
  · rw [if_neg z] at e; cases e
theorem at1_fit {d w : Nat} {m r : List Nd} {i : Int} {k : Ky} (h : Fit d w m) (e : at1 m i k = some r) : Fit d w r := by
  obtain ⟨_, _, nd, q, e2⟩ := at1_some e
  have mm := List.mem_of_getElem? q
  exact nodeAt_fit (wfL_mem h.wf mm) (mem_lOk mm h.ok) (Nat.le_trans (mem_lH mm) h.h) (Nat.le_trans (mem_lW mm) h.w) e2
theorem atP_fit {d w : Nat} : ∀ (p : List (Int × Ky)) (m r : List Nd), Fit d w m → atP m p = some r → Fit d w r
  | [], m, r, h, e => by rw [atP] at e; cases e; exact h
  | (i, k) :: p, m, r, h, e => by
    rw [atP] at e
    cases q : at1 m i k with
    | none => rw [q] at e; cases e
    | some m1 => rw [q] at e; exact atP_fit p m1 r (at1_fit h q) e
/-! a dict of cases -/
theorem pairs_cs : ∀ cs : List Cs, pairsD (eCs cs) = some (cs.map fun c => (toKey (cKey c), eM (cMsg c)))
  | [] => by rw [eCs, pairsD]; rfl
  | c :: r => by
    rw [eCs, eC1_eq, pairsD, pairs_cs r]
    simp [eM]
theorem merge_nd : ∀ (l : List (Key × D)) (ks : List Key) (xs : List D), (∀ p ∈ l, p.1 ∉ ks) → (l.map Prod.fst).Nodup → mergeD (ks, xs) l = (ks ++ l.map Prod.fst, xs ++ l.map Prod.snd)
  | [], ks, xs, _, _ => by rw [mergeD]; simp
  | (k, x) :: l, ks, xs, h, hn => by
    have hk : k ∉ ks := h (k, x) List.mem_cons_self
    have e : dPut ks xs k x = (ks ++ [k], xs ++ [x]) := by
      unfold dPut
      rw [if_neg]
      intro z
      obtain ⟨q, hq, e⟩ := List.any_eq_true.mp z
      exact hk (of_decide_eq_true e ▸ hq)
    rw [List.map_cons, List.nodup_cons] at hn
    rw [mergeD, e, merge_nd l _ _ (fun p hp => ?_) hn.2]
    · simp
    · intro z
      rcases List.mem_append.mp z with z | z
      · exact h p (List.mem_cons_of_mem _ hp) z
      · rw [List.mem_singleton] at z
        exact hn.1 (List.mem_map.mpr ⟨p, hp, z⟩)
theorem dGet_cs (k : Ky) : ∀ cs : List Cs, dGet (cs.map fun c => toKey (cKey c)) (cs.map fun c => eM (cMsg c)) (toKey k) = (lkC cs k).map eM
  | [] => by rw [List.map_nil, List.map_nil, lkC]; unfold dGet; rfl
  | .mk q m :: r => by
    rw [List.map_cons, List.map_cons, dGet, lkC, dGet_cs k r]
    simp only [cKey, cMsg, toKey_inj]
    by_cases e : q = k
    · rw [if_pos e, if_pos e]; rfl
    · rw [if_neg e, if_neg e]
theorem dict_cs {cs : List Cs} (h : KOk cs) : dDict (.lst (eCs cs)) = some (.dct (cs.map fun c => toKey (cKey c)) (cs.map fun c => eM (cMsg c))) := by
  have hn : ((cs.map fun c => (toKey (cKey c), eM (cMsg c))).map Prod.fst).Nodup := by
    rw [List.map_map]
    have := h.nd
    have e : (Prod.fst ∘ fun c => (toKey (cKey c), eM (cMsg c))) = toKey ∘ cKey := rfl
    rw [e, ← List.map_map]
    exact List.pairwise_map.mpr (List.Pairwise.imp (fun hne z => hne (toKey_inj.mp z)) this)
  have m := merge_nd (cs.map fun c => (toKey (cKey c), eM (cMsg c))) [] [] (fun _ _ z => by cases z) hn
  unfold dDict
  simp only [pairs_cs]
  show some (D.dct (mergeD ([], []) _).1 (mergeD ([], []) _).2) = _
  rw [m]
  simp [Function.comp_def]
theorem get_cs {cs : List Cs} (k : Ky) : dGet1 (.dct (cs.map fun c => toKey (cKey c)) (cs.map fun c => eM (cMsg c))) (eK k) = some (oD (lkC cs k)) := by
  unfold dGet1
  rw [keyD_K]
  simp only
  rw [dGet_cs]
  cases lkC cs k <;> rfl
@[simp] theorem isDct_dct (ks : List Key) (xs : List D) : isDct (.dct ks xs) = true := rfl
theorem atI_nd {m : List Nd} {i : Int} (h0 : 0 ≤ i) {nd : Nd} (e : m[i.toNat]? = some nd) : atI (eL m) i = some (eN nd) := by
  obtain ⟨k, rfl⟩ : ∃ k : Nat, i = (k : Int) := ⟨i.toNat, by omega⟩
  rw [atI_get?, eL_map, List.getElem?_map]
  have : m[k]? = some nd := by simpa using e
  rw [this]; rfl

end
section
open PySem L2 DL
theorem ne_emptym (n : Nd) (h : nOk n = true) : cNe (eN n) (.tup [.str "text", .str ""]) = some (.bl (!isE n)) := by
  have e : (.tup [.str "text", .str ""] : D) = eN (.text "") := by rw [eN]
  have d2 : nOk (.text "") = true := by rw [nOk]; exact empty_ok
  have k : dEq (eN n) (eN (.text "")) = some (isE n) := by
    haveI : Decidable (eN n = eN (.text "")) := Classical.propDecidable _
    have d0 := nDep (.text "")
    rw [dEq_Bm (nOk_B n h) (nOk_B _ d2) (by rw [nH] at d0; omega)]
    congr 1
    rw [Bool.eq_iff_iff, decide_eq_true_iff]
    have q1 : ¬ ("show" : Str) = "text" := by decide +kernel
    cases n with
    | text x => simp [eN, isE]
    | shw x => simp [eN, isE, q1]
    | num => simp [eN, isE]
    | sel x cs o => simp [eN, isE]
    | plu x f cs o => simp [eN, isE]
  rw [e]; unfold cNe; rw [k]; rfl
theorem ixm1 (k : Nat) : ixN (k + 1) (-1) = some k := by
  unfold ixN
  rw [if_neg (by omega), if_pos (by omega)]
  congr 1; omega
theorem set_last (a : List Nd) (l : Nd) (d : D) : (eL a ++ [eN l]).set a.length d = eL a ++ [d] := by
  rw [List.set_append_right _ _ (by rw [eL_len]; exact Nat.le_refl _), eL_len, Nat.sub_self]; rfl
theorem pl_step (R : Rec) (m0 : D) (acc : List Nd) (n : Nd) (S : List D) (hR : R 4 [eN n] S = .ok (eN (plN n)) S) (h : nOk n = true) (hh : nH n ≤ 40) (hw : lW acc + nW n ≤ 5000000) :
    L_5_1 R [.val m0, .own (.lst (eL acc)), .val (eN n)] S = .next [.val m0, .own (.lst (eL (plS acc n (plN n)))), .val (eN n)] S := by
  have ne := ne_emptym n h
  have ln := lW_len acc
  have hl : acc.length < sizeLine := Nat.lt_of_le_of_lt (show acc.length ≤ 5000000 by omega) (by decide)
  have tn := tag_text n
  rw [e_L_5_1]
  rcases List.eq_nil_or_concat acc with rfl | ⟨a, l, rfl⟩
  · have one : eL [plN n] = [eN (plN n)] := eL_one _
    cases n with
    | text x =>
      by_cases hx : x = ""
      · subst hx
        simp [tn, isT, ne, isE, plS]
      · have hx2 : (x == "") = false := by simpa using hx
        rw [plN] at hR one
        simp [tn, isT, ne, isE, plS, hx, hx2, hR, one, s0]
    | _ => simp [tn, isT, ne, isE, plS, hR, one, s0]
  · rw [List.concat_eq_append] at hl hw ln ⊢
    have ea : eL (a ++ [l]) = eL a ++ [eN l] := by rw [eL_app, eL_one]
    have la : atI (eL a ++ [eN l]) (-1) = some (eN l) := by rw [atI_neg1, List.getLast?_concat]
    have tl := tag_text l
    have hl2 : a.length + 1 < sizeLine := by rw [List.length_append] at hl; exact hl
    have ix := ixm1 a.length
    have st := set_last a l
    have e2 : ∀ z, eL (a ++ [l, z]) = eL a ++ [eN l, eN z] := fun z => by rw [eL_app, eL, eL_one]
    have e3 : ∀ z, eL (a ++ [z]) = eL a ++ [eN z] := fun z => by rw [eL_app, eL_one]
    rw [plS_concat]
    cases n with
    | text x =>
      cases l with
      | text y =>
        have sz : y.length + x.length ≤ sizeLine := W_le (by
          rw [lW_app] at hw
          simp only [lW, nW] at hw; omega)
        have da : dAdd (.str y) (.str x) = some (.str (y ++ x)) := if_pos sz
        have en : eN (.text (y ++ x)) = .tup [.str "text", .str (y ++ x)] := by rw [eN]
        simp [tn, isT, ne, isE, ea, la, tl, ix, st, da, e3, en]
      | _ =>
        by_cases hx : x = ""
        · subst hx
          simp [tn, isT, ne, isE, ea, la, tl]
        · have hx2 : (x == "") = false := by simpa using hx
          rw [plN] at hR
          simp [tn, isT, ne, isE, ea, la, tl, hx, hx2, hR, hl2, e2]
    | _ => simp [tn, isT, ne, isE, ea, la, tl, hR, hl2, e2]
/-! plain: weights -/
theorem plS_W (acc : List Nd) (n n' : Nd) (h : nW n' ≤ nW n) : lW (plS acc n n') ≤ lW acc + nW n := by
  rcases List.eq_nil_or_concat acc with rfl | ⟨a, l, rfl⟩
  · cases n with
    | text x =>
      rw [plS_nil]
      simp only
      split
      · rw [lW]; omega
      · rw [lW_one]; omega
    | _ => rw [plS_nil]; simp only; rw [lW_one]; omega
  · rw [List.concat_eq_append, plS_concat]
    cases n with
    | text x =>
      cases l with
      | text y =>
        simp only
        rw [lW_app, lW_app, lW_one, lW_one, nW, nW, nW, strLen_append]; omega
      | _ =>
        simp only
        split
        · omega
        · rw [lW_app, lW_one]; omega
    | _ => simp only; rw [lW_app _ [_], lW_one]; omega
mutual
theorem plN_W : ∀ n : Nd, nW (plN n) ≤ nW n
  | .text x => by rw [plN]; exact Nat.le_refl _
  | .shw n => by rw [plN]; exact Nat.le_refl _
  | .num => by rw [plN]; exact Nat.le_refl _
  | .sel n cs o => by
    have h1 := plCs_W cs
    have h2 := plA_W [] o
    rw [lW] at h2
    rw [plN, nW, nW]; omega
  | .plu n f cs o => by
    have h1 := plCs_W cs
    have h2 := plA_W [] o
    rw [lW] at h2
    rw [plN, nW, nW]; omega
theorem plA_W : ∀ (acc m : List Nd), lW (plA acc m) ≤ lW acc + lW m
  | acc, [] => by rw [plA]; omega
  | acc, n :: r => by
    have h1 := plN_W n
    have h2 := plA_W (plS acc n (plN n)) r
    have h3 := plS_W acc n (plN n) h1
    rw [plA, lW]; omega
theorem plC_W : ∀ c : Cs, cW (plC c) ≤ cW c
  | .mk k m => by
    have h2 := plA_W [] m
    rw [lW] at h2
    rw [plC, cW, cW]; omega
theorem plCs_W : ∀ m : List Cs, csW (plCs m) ≤ csW m
  | [] => by rw [plCs]; exact Nat.le_refl _
  | c :: r => by
    have h1 := plC_W c
    have h2 := plCs_W r
    rw [plCs, csW, csW]; omega
end
theorem pl_loop (R : Rec) (m0 : D) (S : List D) : ∀ (m acc : List Nd), (∀ n ∈ m, R 4 [eN n] S = .ok (eN (plN n)) S) → lOk m = true → lH m ≤ 40 → lW acc + lW m ≤ 5000000 →
    forD (.nm 2) [2] (L_5_1 R) (eL m) [.val m0, .own (.lst (eL acc)), .non] S = .next [.val m0, .own (.lst (eL (plA acc m))), .non] S
  | [], acc, _, _, _, _ => by rw [eL, plA, forD]
  | n :: r, acc, hR, ho, hh, hw => by
    rw [lOk, Bool.and_eq_true] at ho
    rw [lH] at hh
    rw [lW] at hw
    have hs := pl_step R m0 acc n S (hR n List.mem_cons_self) ho.1 (by omega) (by omega)
    have ih := pl_loop R m0 S r (plS acc n (plN n)) (fun x hx => hR x (List.mem_cons_of_mem _ hx)) ho.2 (by omega) (by have := plS_W acc n (plN n) (plN_W n); omega)
    rw [eL, plA, forD, x_bnm]
    simp only [List.set]
    rw [hs]
    simp only [x_clr1, x_clr0, List.set]
    exact ih
theorem pn_choice (R : Rec) (S : List D) (nd : Nd) (cs : List Cs) (o : List Nd) (h : (∃ x, nd = .sel x cs o) ∨ ∃ x f, nd = .plu x f cs o)
    (h1 : R 1 [eN nd] S = .ok (.lst (eCs cs)) S) (h2 : R 2 [eN nd] S = .ok (.lst (eL o)) S) (hc : ∀ c ∈ cs, R 5 [.lst (eL (cMsg c))] S = .ok (.lst (eL (plA [] (cMsg c)))) S) (ho : R 5 [.lst (eL o)] S = .ok (.lst (eL (plA [] o))) S) (hl : cs.length ≤ 5000000) :
    B_4 R [eN nd] S = .ok (eN (plN nd)) S := by
  have comp := comp_cases (ε := C_4_1 R) (Γ := [.val (eN nd), .non, .non, .non]) (S := S) (i := 2) (j := 3) (fun c => eC1 (plC c)) cs fun c hcm => by
    have := hc c hcm
    cases c with
    | mk k m =>
      simp only [cMsg, cKey] at this ⊢
      simp [e_C_4_1, this, plC, eC1]
  have em : cs.map (fun c => eC1 (plC c)) = eCs (plCs cs) := by rw [eCs_map, plCs_map, List.map_map]; rfl
  rw [em] at comp
  have lk : lenOk (eCs (plCs cs)) = some (.lst (eCs (plCs cs))) := lenOk_le (by rw [eCs_len, plCs_map, List.length_map]; exact hl)
  have tg := tag_notIn nd
  have ic : isC nd = true := by rcases h with ⟨x, rfl⟩ | ⟨x, f, rfl⟩ <;> rfl
  rcases h with ⟨x, rfl⟩ | ⟨x, f, rfl⟩
  · have c1 : dCut (eN (.sel x cs o)) none (some (-2)) = some (.tup [.str "select", .str x]) := by rw [eN]; rfl
    have c2 : dAdd (.tup [.str "select", .str x]) (.tup [.lst (eCs (plCs cs)), .lst (eL (plA [] o))]) = some (.tup [.str "select", .str x, .lst (eCs (plCs cs)), .lst (eL (plA [] o))]) := rfl
    rw [plN, show eN (.sel x (plCs cs) (plA [] o)) = .tup [.str "select", .str x, .lst (eCs (plCs cs)), .lst (eL (plA [] o))] by rw [eN]]
    simp [B_4, tg, ic, h1, comp, lk, c1, h2, ho, c2]
  · have c1 : dCut (eN (.plu x f cs o)) none (some (-2)) = some (.tup [.str "plural", .str x, .int f]) := by rw [eN]; rfl
    have c2 : dAdd (.tup [.str "plural", .str x, .int f]) (.tup [.lst (eCs (plCs cs)), .lst (eL (plA [] o))]) = some (.tup [.str "plural", .str x, .int f, .lst (eCs (plCs cs)), .lst (eL (plA [] o))]) := rfl
    rw [plN, show eN (.plu x f (plCs cs) (plA [] o)) = .tup [.str "plural", .str x, .int f, .lst (eCs (plCs cs)), .lst (eL (plA [] o))] by rw [eN]]
    simp [B_4, tg, ic, h1, comp, lk, c1, h2, ho, c2]
theorem plain_both : ∀ n : Nat, (∀ (nd : Nd) (S : List D), nOk nd = true → nH nd ≤ 40 → nW nd ≤ 5000000 → 2 * nH nd + 1 ≤ n → run n 4 [eN nd] S = .ok (eN (plN nd)) S) ∧
    (∀ (m : List Nd) (S : List D), lOk m = true → lH m ≤ 40 → lW m ≤ 5000000 → 2 * lH m + 2 ≤ n → run n 5 [.lst (eL m)] S = .ok (.lst (eL (plA [] m))) S)
  | 0 => ⟨fun nd S _ _ _ h => by omega, fun m S _ _ _ h => by omega⟩
  | n + 1 => by
    obtain ⟨ih1, ih2⟩ := plain_both n
    refine ⟨fun nd S ho hh hw hn => ?_, fun m S ho hh hw hn => ?_⟩
    · rw [run_4]
      have ch : ∀ (cs : List Cs) (o : List Nd), ((∃ x, nd = .sel x cs o) ∨ ∃ x f, nd = .plu x f cs o) → csOk cs = true → lOk o = true → nH nd = max (csH cs) (lH o) + 1 → csW cs + lW o ≤ nW nd → B_4 (run n) [eN nd] S = .ok (eN (plN nd)) S := fun cs o hd oc oo e1 e2 => by
        obtain ⟨k, rfl⟩ : ∃ k, n = k + 1 := ⟨n - 1, by omega⟩
        have cl := csW_len cs
        refine pn_choice (run (k + 1)) S nd cs o hd (run_cases k nd cs o S hd) (run_other k nd cs o S hd) (fun c hc => ?_) (ih2 o S oo (by omega) (by omega) (by omega)) (by omega)
        have a1 := mem_csOk hc oc
        have a2 := mem_csH hc
        have a3 := mem_csW hc
        cases c with
        | mk k2 m2 =>
          rw [cOk, Bool.and_eq_true] at a1
          rw [cH] at a2
          rw [cW] at a3
          exact ih2 m2 S a1.2 (by omega) (by omega) (by omega)
      have tg := tag_notIn nd
      cases nd with
      | text x => simp [B_4, tg, isC, plN]
      | shw x => simp [B_4, tg, isC, plN]
      | num => simp [B_4, tg, isC, plN]
      | sel x cs o =>
        rw [nOk, Bool.and_eq_true, Bool.and_eq_true] at ho
        exact ch cs o (.inl ⟨x, rfl⟩) ho.1.2 ho.2 (by rw [nH]) (by rw [nW]; omega)
      | plu x f cs o =>
        rw [nOk, Bool.and_eq_true, Bool.and_eq_true, Bool.and_eq_true] at ho
        exact ch cs o (.inr ⟨x, f, rfl⟩) ho.1.2 ho.2 (by rw [nH]) (by rw [nW]; omega)
    · rw [run_5]
      have lp := pl_loop (run n) (.lst (eL m)) S m [] (fun nd hx => ih1 nd S (mem_lOk hx ho) (by have := mem_lH hx; omega) (by have := mem_lW hx; omega) (by have := mem_lH hx; omega)) ho hh (by rw [lW]; omega)
      rw [eL_nil] at lp
      simp [B_5, lp]

end
section
open PySem L2 DL
/-! ### what stands at a place: the program's answer and the law's -/
theorem run_at1 (n : Nat) {m : List Nd} (i : Int) {k : Ky} (hf : wfL true m) (hk : k ∈ PK) (S : List D) : run (n + 2) 148 [eM m, .int i, eK k] S = .ok (oD (at1 m i k)) S := by
  rw [run_148]
  by_cases h0 : 0 ≤ i
  · by_cases h1 : i < m.length
    · obtain ⟨nd, hn⟩ : ∃ nd, m[i.toNat]? = some nd := ⟨_, List.getElem?_eq_getElem (by omega)⟩
      have ha := atI_nd h0 hn
      have tg := tag_notIn nd
      have e : at1 m i k = nodeAt nd k := by unfold at1; rw [if_pos ⟨h0, h1⟩, hn]; rfl
      rw [e]
      cases q : casesO nd with
      | none =>
        have ic := casesO_none q
        have e2 : nodeAt nd k = none := by unfold nodeAt; rw [q]
        rw [e2]
        simp [B_148, eM, h0, h1, ha, tg, ic, oD]
      | some co =>
        obtain ⟨cs, o⟩ := co
        obtain ⟨hd, ic⟩ := casesO_facts q
        have hK := wf_K (wfL_mem hf (List.mem_of_getElem? hn)) q
        have r1 := run_cases n nd cs o S hd
        have r2 := run_other n nd cs o S hd
        have ke := cEq_ot hk
        have e2 : nodeAt nd k = if k = otK then some o else lkC cs k := by unfold nodeAt; rw [q]
        rw [e2]
        by_cases z : k = otK
        · rw [if_pos z]
          subst z
          simp at ke
          simp [B_148, eM, h0, h1, ha, tg, ic, ke, r2, oD]
        · rw [if_neg z]
          have d1 := dict_cs hK
          have d2 := get_cs (cs := cs) k
          simp [B_148, eM, h0, h1, ha, tg, ic, ke, z, r1] at d1 d2 ⊢
          simp [d1, d2]
    · have e : at1 m i k = none := by unfold at1; rw [if_neg (fun z => h1 z.2)]
      rw [e]
      simp [B_148, eM, h0, h1, oD]
  · have e : at1 m i k = none := by unfold at1; rw [if_neg (fun z => h0 z.1)]
    rw [e]
    simp [B_148, eM, h0, oD]
theorem oD_non (o : Option (List Nd)) : isNon (oD o) = o.isNone := by cases o <;> rfl
@[simp] theorem ref_oD (o : Option (List Nd)) (S : List D) : deref S (oD o) = oD o := by cases o <;> rfl
theorem shOk_of {d : D} (sq : isSq d = true) (h : okR d = true) (hd : dep d ≤ 60) (hw : shW d ≤ 16000000) : shOk d = true := by
  obtain ⟨p, e, a, b, c, l⟩ := okR_py d h
  cases d with
  | lst xs =>
    show (match toPy (.lst xs) with | some q => isSq (.lst xs) && q.showable && !q.hasDict && decide (q.depth ≤ 60) && decide (q.shown.length ≤ 16000000) | none => false) = true
    rw [e]
    simp [isSq, a, b, c]
    omega
  | tup xs =>
    show (match toPy (.tup xs) with | some q => isSq (.tup xs) && q.showable && !q.hasDict && decide (q.depth ≤ 60) && decide (q.shown.length ≤ 16000000) | none => false) = true
    rw [e]
    simp [isSq, a, b, c]
    omega
  | _ => cases sq
structure POk (p : List (Int × Ky)) : Prop where
  l : p.length ≤ 50
  q : ∀ x ∈ p, -1 ≤ x.1 ∧ x.1 ≤ 10000 ∧ x.2 ∈ PK
theorem i20 : ∀ i : Int, -1 ≤ i → i ≤ 10000 → (toString i : Str).length ≤ 5 := by
  have h : (List.range 10001).all (fun n => decide ((toString (n : Int) : Str).length ≤ 5)) = true := by decide +kernel
  intro i h0 h1
  by_cases z : i = -1
  · subst z; decide +kernel
  obtain ⟨n, rfl⟩ : ∃ n : Nat, i = (n : Int) := ⟨i.toNat, by omega⟩
  have := List.all_eq_true.mp h n (List.mem_range.mpr (by omega))
  exact of_decide_eq_true this
theorem path_okR : ∀ (p : List (Int × Ky)), (∀ x ∈ p, -1 ≤ x.1 ∧ x.1 ≤ 10000 ∧ x.2 ∈ PK) → okRs (ePa p) = true ∧ okBs (ePa p) = true ∧ deps (ePa p) ≤ 1 ∧ shWs (ePa p) ≤ 200 * p.length
  | [], _ => ⟨by rw [ePa, List.map_nil, okRs], by rw [ePa, List.map_nil, okBs], by rw [ePa, List.map_nil, deps]; omega, by rw [ePa, List.map_nil, shWs]; omega⟩
  | (i, k) :: p, h => by
    obtain ⟨a, b, c, d⟩ := path_okR p fun x hx => h x (List.mem_cons_of_mem _ hx)
    obtain ⟨h0, h1, h2⟩ := h _ List.mem_cons_self
    obtain ⟨k1, k2⟩ := PK_ok k h2
    have kr := kOk_R k k1
    have kb := kOk_B k k1
    have kd := kDep k
    have ks := kW_sh k
    have il := i20 i h0 h1
    have e : ePa ((i, k) :: p) = .tup [.int i, eK k] :: ePa p := rfl
    have i64 : i.natAbs < 2 ^ 64 := by omega
    rw [e]
    refine ⟨?_, ?_, ?_, ?_⟩
    · simp [okRs, okR, kr, a]; omega
    · simp [okBs, okB, kb, b]
    · simp [deps, dep, kd]; omega
    · simp only [shWs, shW, ks, List.length_cons]; omega
theorem path_sh {p : List (Int × Ky)} (h : POk p) : shOk (.tup (ePa p)) = true := by
  obtain ⟨a, b, c, d⟩ := path_okR p h.q
  have := h.l
  exact shOk_of rfl (by rw [okR]; exact a) (by rw [dep]; omega) (by rw [shW]; omega)
theorem path_repr {p : List (Int × Ky)} (h : POk p) : ∃ t, dReprA (.tup (ePa p)) = some (.str t) := by
  obtain ⟨a, b, c, d⟩ := path_okR p h.q
  have := h.l
  rw [dReprA_tup]
  exact dRepr_ok rfl (by rw [okR]; exact a) (by rw [dep]; omega) (by rw [shW]; show _ ≤ 16777216; omega)
def pathX (p : List (Int × Ky)) : Exn := ⟨7, ["path"], [.tup (ePa p)]⟩
theorem at_loop (n : Nat) (v0 : Sl) {d w : Nat} {p0 : List (Int × Ky)} (h0 : POk p0) (S : List D) : ∀ (p : List (Int × Ky)) (m : List Nd), Fit d w m → (∀ x ∈ p, x.2 ∈ PK) → match atP m p with
    | some r => forD (.tp [.nm 3, .nm 4]) [3, 4] (L_149_1 (run (n + 2))) (ePa p) [v0, .val (.tup (ePa p0)), .val (eM m), .non, .non] S = .next [v0, .val (.tup (ePa p0)), .val (eM r), .non, .non] S
    | none => ∃ Γ, forD (.tp [.nm 3, .nm 4]) [3, 4] (L_149_1 (run (n + 2))) (ePa p) [v0, .val (.tup (ePa p0)), .val (eM m), .non, .non] S = .exc (pathX p0) Γ S
  | [], m, hm, _ => by
    simp only [atP]
    rfl
  | (i, k) :: p, m, hm, hp => by
    have hk := hp _ List.mem_cons_self
    have r1 := run_at1 n i hm.wf hk S
    have sh := path_sh h0
    have e : ePa ((i, k) :: p) = .tup [.int i, eK k] :: ePa p := rfl
    rw [e, forD, atP]
    cases q : at1 m i k with
    | none =>
      rw [q] at r1
      simp only [Option.bind_none]
      refine ⟨[v0, .val (.tup (ePa p0)), .val .non, .val (.int i), .val (eK k)], ?_⟩
      have c1 : cIs .non .non = some (.bl true) := rfl
      simp [e_L_149_1, r1, oD, c1, sh, pathX]
    | some m1 =>
      rw [q] at r1
      simp only [Option.bind_some]
      have ih := at_loop n v0 h0 S p m1 (at1_fit hm q) fun x hx => hp x (List.mem_cons_of_mem _ hx)
      have c1 : cIs (eM m1) .non = some (.bl false) := rfl
      simp [e_L_149_1, r1, oD, c1]
      exact ih
theorem run_mat (n : Nat) {d w : Nat} {m : List Nd} {p : List (Int × Ky)} (hm : Fit d w m) (hp : POk p) (S : List D) : run (n + 3) 149 [eM m, .tup (ePa p)] S = match atP m p with
    | some r => .ok (eM r) S
    | none => .exc (pathX p) S := by
  rw [run_149]
  have lp := at_loop n (.val (eM m)) hp S p m hm fun x hx => (hp.q x hx).2.2
  cases q : atP m p with
  | none =>
    rw [q] at lp
    obtain ⟨Γ, lp⟩ := lp
    simp [B_149, lp]
  | some r =>
    rw [q] at lp
    simp [B_149, lp]
theorem s_path : gx_path 7 = true := rfl
/-! ### .. and the law's -/
theorem comp_filter {n : Nat} {v0 v1 v2 v3 v5 v6 : Sl} {S : List D} {k : Ky} (hk : k ∈ PK) : ∀ (cs : List Cs), (∀ c ∈ cs, cKey c ∈ PK) →
    compD (.tp [.nm 7, .nm 8]) (tTru (eCall (run (n + 1) 1004) (aCons (eV 7) (aCons (eV 4) aNil)))) (C_1007_1 (run (n + 1))) (eCs cs) [v0, v1, v2, v3, .val (eK k), v5, v6, .non, .non] S = .ok ((cs.filter fun c => decide (cKey c = k)).map fun c => eM (cMsg c)) S
  | [], _ => by rw [eCs]; rfl
  | c :: cs, hc => by
    have ih := comp_filter (n := n) (v0 := v0) (v1 := v1) (v2 := v2) (v3 := v3) (v5 := v5) (v6 := v6) (S := S) hk cs fun x hx => hc x (List.mem_cons_of_mem _ hx)
    have sk := same_K n (hc c List.mem_cons_self) hk S
    rw [eCs, eC1_eq, compD, List.filter_cons]
    by_cases z : cKey c = k
    · have sk2 := same_K n hk hk S
      simp at sk2
      simp [z, sk2, e_C_1007_1]
      rw [ih]
      simp [eM]
    · simp [z] at sk
      simp [sk, z]
      exact ih
theorem ck (q : Ky) (m : List Nd) : cKey (Cs.mk q m) = q := rfl
theorem cmm (q : Ky) (m : List Nd) : cMsg (Cs.mk q m) = m := rfl
theorem filter_lk {k : Ky} (hk : k ≠ otK) (o : List Nd) : ∀ {cs : List Cs}, (cs.map cKey).Nodup → ((cs ++ [Cs.mk otK o]).filter fun c => decide (cKey c = k)).map (fun c => eM (cMsg c)) = (lkC cs k).toList.map eM
  | [], _ => by simp [lkC, ck, Ne.symm hk]
  | Cs.mk q m :: r, h => by
    rw [List.map_cons, List.nodup_cons] at h
    have ih := filter_lk hk o h.2
    rw [List.cons_append, List.filter_cons, lkC]
    by_cases e : q = k
    · subst e
      have e2 : (r ++ [Cs.mk otK o]).filter (fun c => decide (cKey c = q)) = [] := by
        rw [List.filter_eq_nil_iff]
        intro c hc z
        rcases List.mem_append.mp hc with hc | hc
        · exact h.1 (List.mem_map.mpr ⟨c, hc, of_decide_eq_true z⟩)
        · rw [List.mem_singleton] at hc; subst hc
          exact hk (of_decide_eq_true z).symm
      rw [e2]
      simp [ck, cmm]
    · rw [ck, if_neg e]
      simpa [e] using ih
theorem filter_ot (o : List Nd) {cs : List Cs} (h : ∀ k ∈ cs.map cKey, k ≠ otK) : ((cs ++ [Cs.mk otK o]).filter fun c => decide (cKey c = otK)).map (fun c => eM (cMsg c)) = [eM o] := by
  have e2 : cs.filter (fun c => decide (cKey c = otK)) = [] := by
    rw [List.filter_eq_nil_iff]
    intro c hc z
    exact h _ (List.mem_map_of_mem hc) (of_decide_eq_true z)
  rw [List.filter_append, e2]
  simp [ck, cmm]
theorem eq_nil1 {m : List Nd} (h : lOk m = true) : cEq (.lst [eM m]) (.lst []) = some (.bl false) := by
  have : Decidable ((.lst [eM m] : D) = .lst []) := .isFalse (fun z => by cases z)
  unfold cEq
  rw [dEq_Bm (by rw [okB, okBs, okBs, eM, okB, lOk_B m h]; rfl) (by rw [okB, okBs]) (by have : dep (D.lst []) ≤ 1 := by { rw [dep, deps]; omega }; omega)]
  simp
theorem eq_nil0 : cEq (.lst []) (.lst []) = some (.bl true) := by
  unfold cEq
  rw [dEq_same (by rw [okB, okBs]) (by rw [dep, deps]; decide)]
  rfl
theorem tag_inL (n : Nd) : cNotIn (.str (tag n)) (.lst [.str "select", .str "plural"]) = some (.bl (!isC n)) := by
  unfold cNotIn
  have h := tag_dIn n
  have e : dIn (.str (tag n)) (.lst [.str "select", .str "plural"]) = dIn (.str (tag n)) (.tup [.str "select", .str "plural"]) := rfl
  rw [e, h]; rfl
theorem at4_m2' (a b c d : D) : atI [a, b, c, d] (-2) = some c := rfl
theorem i_cases {nd : Nd} {cs : List Cs} {o : List Nd} (h : (∃ x, nd = .sel x cs o) ∨ ∃ x f, nd = .plu x f cs o) : dIdx (eN nd) (.int (-2)) = some (.lst (eCs cs)) ∧ dIdx (eN nd) (.int (-1)) = some (.lst (eL o)) := by
  rcases h with ⟨x, rfl⟩ | ⟨x, f, rfl⟩ <;> rw [eN] <;> exact ⟨rfl, rfl⟩
def lAt (o : Option (List Nd)) : D := .lst (o.toList.map eM)
theorem lat_loop (n : Nat) (v0 v1 : Sl) {d w : Nat} (hw : w ≤ 5000000) (S : List D) : ∀ (p : List (Int × Ky)) (m : List Nd), Fit d w m → (∀ x ∈ p, x.2 ∈ PK) → match atP m p with
    | some r => forD (.tp [.nm 3, .nm 4]) [3, 4, 5, 6] (L_1007_2 (run (n + 1))) (ePa p) [v0, v1, .val (eM m), .non, .non, .non, .non, .non, .non] S = .next [v0, v1, .val (eM r), .non, .non, .non, .non, .non, .non] S
    | none => forD (.tp [.nm 3, .nm 4]) [3, 4, 5, 6] (L_1007_2 (run (n + 1))) (ePa p) [v0, v1, .val (eM m), .non, .non, .non, .non, .non, .non] S = .ret (.lst []) S
  | [], m, hm, _ => by
    simp only [atP]
    rfl
  | (i, k) :: p, m, hm, hp => by
    have hk : k ∈ PK := hp _ List.mem_cons_self
    have e : ePa ((i, k) :: p) = .tup [.int i, eK k] :: ePa p := rfl
    rw [e, forD, atP]
    by_cases h0 : i < 0
    · have e : at1 m i k = none := by unfold at1; rw [if_neg (fun z => by omega)]
      rw [e]
      simp [e_L_1007_2, h0]
    · by_cases h1 : (m.length : Int) ≤ i
      · have e : at1 m i k = none := by unfold at1; rw [if_neg (fun z => by omega)]
        rw [e]
        simp [e_L_1007_2, h0, h1, eM]
      · obtain ⟨nd, hn⟩ : ∃ nd, m[i.toNat]? = some nd := ⟨_, List.getElem?_eq_getElem (by omega)⟩
        have ha := atI_nd (by omega) hn
        have tg := tag_inL nd
        have e : at1 m i k = nodeAt nd k := by unfold at1; rw [if_pos ⟨by omega, by omega⟩, hn]; rfl
        have hf2 : ∀ r, nodeAt nd k = some r → Fit d w r := fun r z => at1_fit hm (by rw [e]; exact z)
        rw [e]
        cases q : casesO nd with
        | none =>
          have ic := casesO_none q
          have e2 : nodeAt nd k = none := by unfold nodeAt; rw [q]
          rw [e2]
          simp [e_L_1007_2, h0, h1, eM, ha, tg, ic]
        | some co =>
          obtain ⟨cs, o⟩ := co
          obtain ⟨hd2, ic⟩ := casesO_facts q
          have mm := List.mem_of_getElem? hn
          have hK := wf_K (wfL_mem hm.wf mm) q
          obtain ⟨i2, i1⟩ := i_cases hd2
          have e2 : nodeAt nd k = if k = otK then some o else lkC cs k := by unfold nodeAt; rw [q]
          have lc : cs.length ≤ 1000000 := by
            have := mem_lW mm
            have := hm.w
            have := csW_len cs
            have : csW cs ≤ nW nd := by rcases hd2 with ⟨x, rfl⟩ | ⟨x, f, rfl⟩ <;> rw [nW] <;> omega
            omega
          have eo : (.tup [.str "other", .lst (eL o)] : D) = eC1 (Cs.mk otK o) := by rw [eC1]; rfl
          have ad : dAdd (.lst (eCs cs)) (.lst [.tup [.str "other", .lst (eL o)]]) = some (.lst (eCs (cs ++ [Cs.mk otK o]))) := by
            rw [eCs_app, eCs_one, eo]
            exact if_pos (W_le (by rw [eCs_len]; show cs.length + 1 ≤ _; omega))
          have cf := comp_filter (n := n) (v0 := v0) (v1 := v1) (v2 := .val (eM m)) (v3 := .val (.int i)) (v5 := .val (.lst (eCs (cs ++ [Cs.mk otK o])))) (v6 := .non) (S := S) hk (cs ++ [Cs.mk otK o]) (fun c hc => by
            rcases List.mem_append.mp hc with hc | hc
            · exact (hK.pk _ (List.mem_map_of_mem hc)).1
            · rw [List.mem_singleton] at hc; subst hc; exact otK_in)
          have fl : ((cs ++ [Cs.mk otK o]).filter fun c => decide (cKey c = k)).map (fun c => eM (cMsg c)) = (nodeAt nd k).toList.map eM := by
            rw [e2]
            by_cases z : k = otK
            · subst z; rw [if_pos rfl]; exact filter_ot o fun k hk => (hK.pk k hk).2
            · rw [if_neg z]; exact filter_lk z o hK.nd
          rw [fl] at cf
          cases q3 : nodeAt nd k with
          | none =>
            rw [q3] at cf
            have lk : lenOk [] = some (.lst []) := lenOk_le (by simp)
            have c0 := eq_nil0
            unfold eM at cf
            simp [e_L_1007_2, h0, h1, eM, ha, tg, ic, i2, i1, ad] at cf ⊢
            simp [cf, lk, c0]
          | some r =>
            rw [q3] at cf
            have fr := hf2 r q3
            have lk : lenOk [eM r] = some (.lst [eM r]) := lenOk_le (by simp)
            have c1 := eq_nil1 fr.ok
            have a0 : atI [eM r] 0 = some (eM r) := rfl
            have ih := lat_loop n v0 v1 hw S p r fr fun x hx => hp x (List.mem_cons_of_mem _ hx)
            unfold eM at cf lk c1 a0 ih
            simp [e_L_1007_2, h0, h1, eM, ha, tg, ic, i2, i1, ad] at cf ⊢
            simp [cf, lk, c1, a0]
            exact ih
theorem run_lat (n : Nat) {d w : Nat} (hw : w ≤ 5000000) {m : List Nd} {p : List (Int × Ky)} (hm : Fit d w m) (hp : ∀ x ∈ p, x.2 ∈ PK) (S : List D) : run (n + 2) 1007 [eM m, .tup (ePa p)] S = .ok (lAt (atP m p)) S := by
  rw [run_1007]
  have lp := lat_loop n (.val (eM m)) (.val (.tup (ePa p))) hw S p m hm hp
  cases q : atP m p with
  | none =>
    rw [q] at lp
    simp [B_1007, lp, lAt]
  | some r =>
    rw [q] at lp
    simp [B_1007, lp, lAt]

end
section
open PySem L2 DL
/-! ### another message at a place -/
def putCs : List Cs → Ky → List Nd → List Cs
  | [], _, _ => []
  | Cs.mk q m :: r, k, new => if q = k then Cs.mk q new :: r else Cs.mk q m :: putCs r k new
def putN (nd : Nd) (k : Ky) (new : List Nd) : Nd := match nd with
  | .sel n cs o => if k = otK then .sel n cs new else .sel n (putCs cs k new) o
  | .plu n f cs o => if k = otK then .plu n f cs new else .plu n f (putCs cs k new) o
  | nd => nd
def putP : List Nd → List (Int × Ky) → List Nd → List Nd
  | _, [], inner => inner
  | m, (i, k) :: p, inner => match at1 m i k, m[i.toNat]? with
    | some sub, some nd => m.take i.toNat ++ [putN nd k (putP sub p inner)] ++ m.drop (i.toNat + 1)
    | _, _ => m
theorem putCs_none : ∀ {cs : List Cs} {k : Ky} (new : List Nd), k ∉ cs.map cKey → putCs cs k new = cs
  | [], _, _, _ => by rw [putCs]
  | Cs.mk q m :: r, k, new, h => by
    rw [List.map_cons, List.mem_cons, not_or] at h
    rw [putCs, if_neg (fun z => h.1 z.symm), putCs_none new h.2]
theorem putCs_keys (k : Ky) (new : List Nd) : ∀ cs : List Cs, (putCs cs k new).map cKey = cs.map cKey
  | [] => by rw [putCs]
  | Cs.mk q m :: r => by
    rw [putCs]
    by_cases z : q = k
    · rw [if_pos z]; rfl
    · rw [if_neg z, List.map_cons, putCs_keys k new r]; rfl
theorem putCs_len (k : Ky) (new : List Nd) (cs : List Cs) : (putCs cs k new).length = cs.length := by
  have := congrArg List.length (putCs_keys k new cs)
  simpa using this
theorem lkC_put (k : Ky) (new : List Nd) : ∀ {cs : List Cs} {m : List Nd}, lkC cs k = some m → lkC (putCs cs k new) k = some new
  | [], _, h => by rw [lkC] at h; cases h
  | Cs.mk q m :: r, m', h => by
    rw [lkC] at h
    rw [putCs]
    by_cases z : q = k
    · rw [if_pos z, lkC, if_pos z]
    · rw [if_neg z] at h ⊢
      rw [lkC, if_neg z, lkC_put k new h]
theorem put_map {k : Ky} {new : List Nd} : ∀ {cs : List Cs}, (cs.map cKey).Nodup → cs.map (fun c => (.tup [eK (cKey c), if cKey c = k then eM new else eM (cMsg c)] : D)) = eCs (putCs cs k new)
  | [], _ => by rw [putCs, eCs]; rfl
  | Cs.mk q m :: r, h => by
    rw [List.map_cons, List.nodup_cons] at h
    rw [List.map_cons, put_map h.2, putCs]
    by_cases z : q = k
    · subst z
      have h1 : q ∉ r.map cKey := h.1
      rw [if_pos rfl, eCs, eC1, ck, if_pos rfl, putCs_none new h1]; rfl
    · rw [if_neg z, eCs, eC1, ck, cmm, if_neg z]; rfl
theorem nodeAt_put {nd : Nd} {k : Ky} {m : List Nd} (new : List Nd) (h : nodeAt nd k = some m) : nodeAt (putN nd k new) k = some new := by
  cases nd with
  | sel n cs o =>
    unfold nodeAt casesO at h
    unfold putN
    by_cases z : k = otK
    · simp only [z, if_true]; unfold nodeAt casesO; simp
    · simp only [z, if_false] at h ⊢
      unfold nodeAt casesO; simp only [z, if_false]
      exact lkC_put k new h
  | plu n f cs o =>
    unfold nodeAt casesO at h
    unfold putN
    by_cases z : k = otK
    · simp only [z, if_true]; unfold nodeAt casesO; simp
    · simp only [z, if_false] at h ⊢
      unfold nodeAt casesO; simp only [z, if_false]
      exact lkC_put k new h
  | _ => cases h
theorem putCs_facts {k : Ky} {new sub : List Nd} : ∀ {cs : List Cs}, lkC cs k = some sub → wfCs true cs → wfL true new → csOk cs = true → lOk new = true →
    wfCs true (putCs cs k new) ∧ csOk (putCs cs k new) = true ∧ csH (putCs cs k new) ≤ max (csH cs) (lH new) ∧ csW (putCs cs k new) + lW sub ≤ csW cs + lW new ∧ lH sub ≤ csH cs
  | [], h, _, _, _, _ => by rw [lkC] at h; cases h
  | Cs.mk q m :: r, h, w1, w2, o1, o2 => by
    rw [lkC] at h
    rw [wfCs, wfC] at w1
    rw [csOk, cOk, Bool.and_eq_true, Bool.and_eq_true] at o1
    rw [putCs]
    by_cases z : q = k
    · rw [if_pos z] at h ⊢
      cases h
      refine ⟨by rw [wfCs, wfC]; exact ⟨w2, w1.2⟩, by rw [csOk, cOk, o1.1.1, o2, o1.2]; rfl, ?_, ?_, ?_⟩
      · rw [csH, cH, csH, cH]; omega
      · rw [csW, cW, csW, cW]; omega
      · rw [csH, cH]; omega
    · rw [if_neg z] at h ⊢
      obtain ⟨a, b, c, d, e⟩ := putCs_facts (new := new) h w1.2 w2 o1.2 o2
      refine ⟨by rw [wfCs, wfC]; exact ⟨w1.1, a⟩, by rw [csOk, cOk, o1.1.1, o1.1.2, b]; rfl, ?_, ?_, ?_⟩
      · rw [csH, cH, csH, cH]; omega
      · rw [csW, cW, csW, cW]; omega
      · rw [csH, cH]; omega
theorem putN_facts {nd : Nd} {k : Ky} {new sub : List Nd} (h : nodeAt nd k = some sub) (w1 : wfN true nd) (w2 : wfL true new) (o1 : nOk nd = true) (o2 : lOk new = true) :
    wfN true (putN nd k new) ∧ nOk (putN nd k new) = true ∧ nH (putN nd k new) ≤ max (nH nd) (lH new + 1) ∧ nW (putN nd k new) + lW sub ≤ nW nd + lW new ∧ lH sub + 1 ≤ nH nd := by
  cases nd with
  | sel n cs o =>
    unfold nodeAt casesO at h
    rw [wfN] at w1
    rw [nOk, Bool.and_eq_true, Bool.and_eq_true] at o1
    unfold putN
    by_cases z : k = otK
    · simp only [z, if_true] at h ⊢
      cases h
      refine ⟨by rw [wfN]; exact ⟨w1.1, w1.2.1, w1.2.2.1, w2⟩, by rw [nOk, o1.1.1, o1.1.2, o2]; rfl, ?_, ?_, ?_⟩
      · rw [nH, nH]; omega
      · rw [nW, nW]; omega
      · rw [nH]; omega
    · simp only [z, if_false] at h ⊢
      obtain ⟨a, b, c, d, e⟩ := putCs_facts (new := new) h w1.2.2.1 w2 o1.1.2 o2
      refine ⟨by rw [wfN, putCs_keys]; exact ⟨w1.1, w1.2.1, a, w1.2.2.2⟩, by rw [nOk, o1.1.1, b, o1.2]; rfl, ?_, ?_, ?_⟩
      · rw [nH, nH]; omega
      · rw [nW, nW]; omega
      · rw [nH]; omega
  | plu n f cs o =>
    unfold nodeAt casesO at h
    rw [wfN] at w1
    rw [nOk, Bool.and_eq_true, Bool.and_eq_true, Bool.and_eq_true] at o1
    unfold putN
    by_cases z : k = otK
    · simp only [z, if_true] at h ⊢
      cases h
      refine ⟨by rw [wfN]; exact ⟨w1.1, w1.2.1, w1.2.2.1, w1.2.2.2.1, w2⟩, by rw [nOk, o1.1.1.1, o1.1.1.2, o1.1.2, o2]; rfl, ?_, ?_, ?_⟩
      · rw [nH, nH]; omega
      · rw [nW, nW]; omega
      · rw [nH]; omega
    · simp only [z, if_false] at h ⊢
      obtain ⟨a, b, c, d, e⟩ := putCs_facts (new := new) h w1.2.2.2.1 w2 o1.1.2 o2
      refine ⟨by rw [wfN, putCs_keys]; exact ⟨w1.1, w1.2.1, w1.2.2.1, a, w1.2.2.2.2⟩, by rw [nOk, o1.1.1.1, o1.1.1.2, b, o1.2]; rfl, ?_, ?_, ?_⟩
      · rw [nH, nH]; omega
      · rw [nW, nW]; omega
      · rw [nH]; omega
  | _ => cases h
theorem split_at {m : List Nd} {j : Nat} {nd : Nd} (e : m[j]? = some nd) : m = m.take j ++ nd :: m.drop (j + 1) := by
  obtain ⟨h, e⟩ := List.getElem?_eq_some_iff.mp e
  subst e
  rw [← List.drop_eq_getElem_cons h, List.take_append_drop]
theorem wfL_split {ins : Bool} {a b : List Nd} (h : wfL ins (a ++ b)) : wfL ins a ∧ wfL ins b := by
  induction a with
  | nil => exact ⟨by rw [wfL]; trivial, h⟩
  | cons x r ih => rw [List.cons_append, wfL] at h; rw [wfL]; exact ⟨⟨h.1, (ih h.2).1⟩, (ih h.2).2⟩
theorem putP_fit : ∀ (p : List (Int × Ky)) {m inner r : List Nd} {d w d2 w2 : Nat}, Fit d w m → Fit d2 w2 inner → atP m p = some r → Fit (d + d2) (w + w2) (putP m p inner) ∧ lW (putP m p inner) ≤ lW m + w2
  | [], m, inner, r, d, w, d2, w2, hm, hi, _ => by
    rw [putP]
    exact ⟨⟨hi.wf, hi.ok, by have := hi.h; omega, by have := hi.w; omega⟩, by have := hi.w; omega⟩
  | (i, k) :: p, m, inner, r, d, w, d2, w2, hm, hi, e => by
    rw [atP] at e
    cases q : at1 m i k with
    | none => rw [q] at e; cases e
    | some sub =>
      rw [q] at e
      obtain ⟨i0, i1, nd, hn, hs⟩ := at1_some q
      have hsub : Fit d (lW sub) sub := ⟨(at1_fit hm q).wf, (at1_fit hm q).ok, (at1_fit hm q).h, Nat.le_refl _⟩
      have mm := List.mem_of_getElem? hn
      have hh := mem_lH mm
      have hdn : nH nd ≤ d := Nat.le_trans hh hm.h
      -- the message there is lower by one
      obtain ⟨_, _, _, _, lo⟩ := putN_facts (new := []) hs (wfL_mem hm.wf mm) (by rw [wfL]; trivial) (mem_lOk mm hm.ok) (by rw [lOk])
      have hsub2 : Fit (d - 1) (lW sub) sub := ⟨hsub.wf, hsub.ok, by omega, Nat.le_refl _⟩
      obtain ⟨hp, hpw⟩ := putP_fit p hsub2 hi e
      obtain ⟨a, b, c, dd, _⟩ := putN_facts (new := putP sub p inner) hs (wfL_mem hm.wf mm) hp.wf (mem_lOk mm hm.ok) hp.ok
      have sp := split_at hn
      have hwf := hm.wf
      have hok := hm.ok
      have hH := hm.h
      have hW := hm.w
      rw [sp] at hwf hok hH hW
      obtain ⟨x1, x2⟩ := wfL_split hwf
      rw [wfL] at x2
      rw [lOk_app, lOk, Bool.and_eq_true, Bool.and_eq_true] at hok
      rw [lH_app, lH] at hH
      rw [lW_app, lW] at hW
      have hWm : lW m = lW (m.take i.toNat) + (nW nd + lW (m.drop (i.toNat + 1))) := by
        have := congrArg lW sp
        rw [lW_app, lW] at this
        exact this
      have e2 : putP m ((i, k) :: p) inner = m.take i.toNat ++ [putN nd k (putP sub p inner)] ++ m.drop (i.toNat + 1) := by
        rw [putP, q, hn]
      have hph := hp.h
      have d1 : 1 ≤ d := by omega
      rw [e2, List.append_assoc, List.singleton_append]
      refine ⟨⟨wfL_app x1 (by rw [wfL]; exact ⟨a, x2.2⟩), by rw [lOk_app, lOk, hok.1, b, hok.2.2]; rfl, ?_, ?_⟩, ?_⟩
      · rw [lH_app, lH]; omega
      · rw [lW_app, lW]; omega
      · rw [lW_app, lW]; omega
theorem atP_put : ∀ (p : List (Int × Ky)) {m inner r : List Nd}, atP m p = some r → atP (putP m p inner) p = some inner
  | [], m, inner, r, _ => by rw [putP, atP]
  | (i, k) :: p, m, inner, r, e => by
    rw [atP] at e
    cases q : at1 m i k with
    | none => rw [q] at e; cases e
    | some sub =>
      rw [q] at e
      obtain ⟨i0, i1, nd, hn, hs⟩ := at1_some q
      have e2 : putP m ((i, k) :: p) inner = m.take i.toNat ++ [putN nd k (putP sub p inner)] ++ m.drop (i.toNat + 1) := by
        rw [putP, q, hn]
      have il : i.toNat < m.length := by omega
      have a1 : at1 (putP m ((i, k) :: p) inner) i k = some (putP sub p inner) := by
        rw [e2]
        unfold at1
        have l1 : (m.take i.toNat).length = i.toNat := by rw [List.length_take]; omega
        rw [if_pos ⟨i0, by simp only [List.length_append, List.length_take, List.length_drop, List.length_cons, List.length_nil]; omega⟩]
        have g : (m.take i.toNat ++ [putN nd k (putP sub p inner)] ++ m.drop (i.toNat + 1))[i.toNat]? = some (putN nd k (putP sub p inner)) := by
          rw [List.append_assoc, List.getElem?_append_right (by omega), l1, Nat.sub_self]; rfl
        rw [g]
        exact nodeAt_put _ hs
      rw [atP, a1]
      exact atP_put p e
/-! the program's way to put it -/
theorem cut_take (m : List Nd) (i : Int) (h : 0 ≤ i) : cutD (eL m) none (some i) = eL (m.take i.toNat) := by
  unfold cutD
  obtain ⟨k, rfl⟩ : ∃ k : Nat, i = (k : Int) := ⟨i.toNat, by omega⟩
  rw [HT.sIx_none, HT.sIx_nat]
  simp [eL_map, List.map_take]
theorem cut_drop (m : List Nd) (i : Int) (h : 0 ≤ i) : cutD (eL m) (some i) none = eL (m.drop i.toNat) := by
  unfold cutD
  obtain ⟨k, rfl⟩ : ∃ k : Nat, i = (k : Int) := ⟨i.toNat, by omega⟩
  rw [HT.sIx_none, HT.sIx_nat]
  simp only [eL_map, List.map_drop, List.length_map, Int.toNat_natCast]
  by_cases z : k ≤ m.length
  · rw [Nat.min_eq_left z, List.take_of_length_le (by simp)]
  · rw [Nat.min_eq_right (by omega), List.drop_eq_nil_of_le (by simp), List.drop_eq_nil_of_le (by simp; omega)]; exact List.take_nil
theorem cut_tl (x : D) (xs : List D) : cutD (x :: xs) (some 1) none = xs := by
  unfold cutD
  have e1 : HT.sIx (x :: xs).length 0 (some 1) = 1 := by
    have := HT.sIx_nat (x :: xs).length 0 1
    rw [List.length_cons] at this ⊢
    rw [show (1 : Int) = ((1 : Nat) : Int) from rfl, this]; omega
  rw [e1, HT.sIx_none]
  simp
theorem cut4_1 (a b c d : D) : cutD [a, b, c, d] none (some (-1)) = [a, b, c] := rfl
theorem cut5_1 (a b c d e : D) : cutD [a, b, c, d, e] none (some (-1)) = [a, b, c, d] := rfl
theorem cut4_2 (a b c d : D) : cutD [a, b, c, d] none (some (-2)) = [a, b] := rfl
theorem cut5_2 (a b c d e : D) : cutD [a, b, c, d, e] none (some (-2)) = [a, b, c] := rfl
theorem at0 {α : Type} (x : α) (xs : List α) : atI (x :: xs) 0 = some x := by
  have := atI_get? (xs := x :: xs) (k := 0)
  simpa using this
theorem run_with (n : Nat) {nd : Nd} {k : Ky} (new : List Nd) (hk : k ∈ PK) {cs : List Cs} {o : List Nd} (q : casesO nd = some (cs, o)) (hK : KOk cs) (hl : cs.length ≤ 1000000) (S : List D) : run (n + 2) 150 [eN nd, eK k, eM new] S = .ok (eN (putN nd k new)) S := by
  rw [run_150]
  obtain ⟨hd, ic⟩ := casesO_facts q
  have r1 := run_cases n nd cs o S hd
  have r2 := run_other n nd cs o S hd
  have ke := cEq_ot hk
  have cp := comp_cases (ε := C_150_1 (run (n + 1))) (Γ := [.val (eN nd), .val (eK k), .val (eM new), .non, .non, .non]) (S := S) (i := 4) (j := 5) (fun c => (.tup [eK (cKey c), if cKey c = k then eM new else eM (cMsg c)] : D)) cs (fun c hc => by
    have kk := cEq_K (hK.pk _ (List.mem_map_of_mem hc)).1 hk
    by_cases z : cKey c = k
    · simp [z] at kk
      simp [e_C_150_1, z, kk, eM]
    · simp [z] at kk
      simp [e_C_150_1, z, kk, eM])
  rw [put_map hK.nd] at cp
  have lk : lenOk (eCs (putCs cs k new)) = some (.lst (eCs (putCs cs k new))) := lenOk_le (by rw [eCs_len, putCs_len]; omega)
  by_cases z : k = otK
  · subst z
    simp at ke
    rcases hd with ⟨x, rfl⟩ | ⟨x, f, rfl⟩
    · have ad : ∀ a b c d : D, dAdd (.tup [a, b, c]) (.tup [d]) = some (.tup [a, b, c, d]) := fun _ _ _ _ => dAdd_tup (by simp)
      simp [B_150, ke, eN, putN, cut4_1, ad, eM]
    · have ad : ∀ a b c d e : D, dAdd (.tup [a, b, c, d]) (.tup [e]) = some (.tup [a, b, c, d, e]) := fun _ _ _ _ _ => dAdd_tup (by simp)
      simp [B_150, ke, eN, putN, cut5_1, ad, eM]
  · unfold eM at cp
    rcases hd with ⟨x, rfl⟩ | ⟨x, f, rfl⟩
    · have ad : ∀ a b c d : D, dAdd (.tup [a, b]) (.tup [c, d]) = some (.tup [a, b, c, d]) := fun _ _ _ _ => dAdd_tup (by simp)
      simp [B_150, ke, z, r1, eM] at cp ⊢
      simp [cp, lk]
      rw [eN] at r2
      simp [eN, putN, cut4_2, ad, z, r2]
    · have ad : ∀ a b c d e : D, dAdd (.tup [a, b, c]) (.tup [d, e]) = some (.tup [a, b, c, d, e]) := fun _ _ _ _ _ => dAdd_tup (by simp)
      simp [B_150, ke, z, r1, eM] at cp ⊢
      simp [cp, lk]
      rw [eN] at r2
      simp [eN, putN, cut5_2, ad, z, r2]
theorem POk.tail {x : Int × Ky} {p : List (Int × Ky)} (h : POk (x :: p)) : POk p := ⟨by have := h.l; rw [List.length_cons] at this; omega, fun y hy => h.q y (List.mem_cons_of_mem _ hy)⟩
theorem cs_le {nd : Nd} {cs : List Cs} {o : List Nd} (hd : (∃ x, nd = .sel x cs o) ∨ ∃ x f, nd = .plu x f cs o) {w : Nat} (h : nW nd ≤ w) (hw : w ≤ 5000000) : cs.length ≤ 1000000 := by
  have := csW_len cs
  have : csW cs ≤ nW nd := by rcases hd with ⟨x, rfl⟩ | ⟨x, f, rfl⟩ <;> rw [nW] <;> omega
  omega
theorem nodeAt_co {nd : Nd} {k : Ky} {sub : List Nd} (h : nodeAt nd k = some sub) : ∃ cs o, casesO nd = some (cs, o) := by
  unfold nodeAt at h
  cases q : casesO nd with
  | none => rw [q] at h; cases h
  | some co => exact ⟨co.1, co.2, rfl⟩
theorem run_rep (inner : List Nd) : ∀ (p : List (Int × Ky)) (n : Nat) {d w : Nat} {m r : List Nd}, w ≤ 5000000 → Fit d w m → POk p → ∀ (S : List D), atP m p = some r → run (p.length + (n + 5)) 151 [eM m, .tup (ePa p), eM inner] S = .ok (eM (putP m p inner)) S
  | [], n, d, w, m, r, hw, hm, hp, S, e => by
    have r1 := run_mat (n + 1) hm hp S
    rw [e] at r1
    replace r1 : run (n + 4) 149 [.lst (eL m), .tup []] S = .ok (eM r) S := r1
    have z : ([] : List (Int × Ky)).length + (n + 5) = (n + 4) + 1 := by simp
    rw [z, run_151]
    simp [B_151, eM, ePa, putP, r1]
  | (i, k) :: p, n, d, w, m, r, hw, hm, hp, S, e => by
    have z : ((i, k) :: p).length + (n + 5) = (p.length + (n + 5)) + 1 := by rw [List.length_cons]; omega
    rw [z, run_151]
    have r1 := run_mat (p.length + n + 2) hm hp S
    rw [e] at r1
    rw [show p.length + n + 2 + 3 = p.length + (n + 5) by omega] at r1
    replace r1 : run (p.length + (n + 5)) 149 [.lst (eL m), .tup (eS (i, k) :: ePa p)] S = .ok (eM r) S := r1
    rw [atP] at e
    cases q : at1 m i k with
    | none => rw [q] at e; cases e
    | some sub =>
      rw [q] at e
      obtain ⟨i0, i1, nd, hn, hs⟩ := at1_some q
      have hk := (hp.q _ List.mem_cons_self).2.2
      have ra := run_at1 (p.length + (n + 3)) i hm.wf hk S
      rw [q, show p.length + (n + 3) + 2 = p.length + (n + 5) by omega] at ra
      have ih := run_rep inner p n hw (at1_fit hm q) hp.tail S e
      obtain ⟨cs, o, hco⟩ := nodeAt_co hs
      have mm := List.mem_of_getElem? hn
      have hd2 := (casesO_facts hco).1
      have rw2 := run_with (p.length + (n + 3)) (putP sub p inner) hk hco (wf_K (wfL_mem hm.wf mm) hco) (cs_le hd2 (Nat.le_trans (mem_lW mm) hm.w) hw) S
      rw [show p.length + (n + 3) + 2 = p.length + (n + 5) by omega] at rw2
      have ha := atI_nd i0 hn
      have ml := lW_len m
      have mw := hm.w
      have ad1 : ∀ x : Nd, dAdd (.lst (eL (m.take i.toNat))) (.lst [eN x]) = some (.lst (eL (m.take i.toNat ++ [x]))) := fun x => by
        rw [eL_app, eL_one]
        exact if_pos (W_le (by rw [eL_len, List.length_take]; show _ + 1 ≤ _; omega))
      have ad2 : ∀ x : Nd, dAdd (.lst (eL (m.take i.toNat ++ [x]))) (.lst (eL (m.drop (i.toNat + 1)))) = some (.lst (eL (m.take i.toNat ++ [x] ++ m.drop (i.toNat + 1)))) := fun x => by
        rw [eL_app (m.take i.toNat ++ [x])]
        exact if_pos (W_le (by rw [eL_len, eL_len, List.length_append, List.length_take, List.length_drop]; show _ + 1 + _ ≤ _; omega))
      have c1 := cut_take m i i0
      have c2 := cut_drop m (i + 1) (by omega)
      rw [show (i + 1).toNat = i.toNat + 1 by omega] at c2
      have e2 : putP m ((i, k) :: p) inner = m.take i.toNat ++ [putN nd k (putP sub p inner)] ++ m.drop (i.toNat + 1) := by
        rw [putP, q, hn]
      rw [e2]
      have ct := cut_tl (eS (i, k)) (ePa p)
      have a0 : atI (eS (i, k) :: ePa p) 0 = some (eS (i, k)) := at0 _ _
      have es : eS (i, k) = .tup [.int i, eK k] := rfl
      have ep : ePa ((i, k) :: p) = eS (i, k) :: ePa p := rfl
      rw [ep]
      rw [es] at ct a0 r1 ⊢
      unfold eM at ra ih rw2
      simp [oD, eM] at ra
      simp [B_151, eM, r1, ct, a0, ra, ih, ha, rw2, c1, c2, ad1, ad2]
theorem run_rep_no (p : List (Int × Ky)) (n : Nat) {d w : Nat} {m : List Nd} (inner : List Nd) (hm : Fit d w m) (hp : POk p) (S : List D) (e : atP m p = none) : run (n + 4) 151 [eM m, .tup (ePa p), eM inner] S = .exc (pathX p) S := by
  rw [run_151]
  have r1 := run_mat n hm hp S
  rw [e] at r1
  replace r1 : run (n + 3) 149 [eM m, .tup (ePa p)] S = .exc (pathX p) S := r1
  simp [B_151, r1]
def lPut (m : List Nd) (p : List (Int × Ky)) (inner : List Nd) : D := match atP m p with
  | some _ => .lst [eM (putP m p inner)]
  | none => .lst []

end
section
open PySem L2 DL
/-! ### the law's way to put it -/
theorem path_nil {p : List (Int × Ky)} (h : POk p) : cEq (.tup (ePa p)) (.tup []) = some (.bl p.isEmpty) := by
  obtain ⟨a, b, c, d⟩ := path_okR p h.q
  unfold cEq
  haveI : Decidable ((.tup (ePa p) : D) = .tup []) := Classical.propDecidable _
  rw [dEq_B (by rw [okB]; exact b) (by rw [okB, okBs]) (by rw [dep]; omega) (by rw [dep, deps]; decide)]
  cases p with
  | nil => simp [ePa]
  | cons x r => simp [ePa]
theorem path_nilN {p : List (Int × Ky)} (h : POk p) : cNe (.tup (ePa p)) (.tup []) = some (.bl (!p.isEmpty)) := by
  have := path_nil h
  unfold cEq at this
  unfold cNe
  cases q : dEq (.tup (ePa p)) (.tup []) with
  | none => rw [q] at this; cases this
  | some b => rw [q] at this; simp at this; simp [this]
theorem put_loop (n : Nat) {k : Ky} (hk : k ∈ PK) {x : D} {xs : List D} {inner new : List Nd} (v0 v3 v5 v7 : Sl) (S : List D) : ∀ (cs acc : List Cs), (cs.map cKey).Nodup → (∀ q ∈ cs.map cKey, q ∈ PK) →
    (∀ sub, lkC cs k = some sub → run (n + 1) 1008 [eM sub, .tup xs, eM inner] S = .ok (eM new) S) → acc.length + cs.length ≤ 1000000 →
    forD (.tp [.nm 8, .nm 9]) [8, 9] (L_1008_1 (run (n + 1))) (eCs cs) [v0, .val (.tup (x :: xs)), .val (eM inner), v3, .val (eK k), v5, .own (.lst (eCs acc)), v7, .non, .non] S = .next [v0, .val (.tup (x :: xs)), .val (eM inner), v3, .val (eK k), v5, .own (.lst (eCs (acc ++ putCs cs k new))), v7, .non, .non] S
  | [], acc, _, _, _, _ => by rw [putCs, List.append_nil, eCs]; rfl
  | Cs.mk q m :: cs, acc, hn, hp, hR, hl => by
    rw [List.map_cons, List.nodup_cons] at hn
    rw [List.length_cons] at hl
    have hq : q ∈ PK := hp q List.mem_cons_self
    have sk := same_K n hq hk S
    have hsz : acc.length < sizeLine := by rw [sizeLine_eq]; omega
    have ct := cut_tl x xs
    have h1 : q ∉ cs.map cKey := hn.1
    rw [eCs, eC1, forD, putCs]
    by_cases z : q = k
    · subst z
      have r1 := hR m (by rw [lkC, if_pos rfl])
      have ln : lkC cs q = none := by
        cases e : lkC cs q with
        | none => rfl
        | some s => exact absurd (List.mem_map.mpr ⟨_, lkC_mem e, rfl⟩) h1
      have ih := put_loop n hk (x := x) (xs := xs) (inner := inner) (new := new) v0 v3 v5 v7 S cs (acc ++ [Cs.mk q new]) hn.2 (fun y hy => hp y (List.mem_cons_of_mem _ hy)) (fun s hs => by rw [ln] at hs; cases hs) (by rw [List.length_append, List.length_singleton]; omega)
      rw [putCs_none new h1] at ih
      have e2 : eCs acc ++ [.tup [eK q, .lst (eL new)]] = eCs (acc ++ [Cs.mk q new]) := by rw [eCs_app, eCs_one, eC1]
      have e3 : acc ++ Cs.mk q new :: cs = (acc ++ [Cs.mk q new]) ++ cs := by rw [List.append_assoc]; rfl
      rw [if_pos rfl, e3]
      unfold eM at r1 ih
      simp at sk
      simp [e_L_1008_1, sk, ct, eM, r1, hsz, e2]
      simpa using ih
    · have ih := put_loop n hk (x := x) (xs := xs) (inner := inner) (new := new) v0 v3 v5 v7 S cs (acc ++ [Cs.mk q m]) hn.2 (fun y hy => hp y (List.mem_cons_of_mem _ hy)) (fun s hs => hR s (by rw [lkC, if_neg z]; exact hs)) (by rw [List.length_append, List.length_singleton]; omega)
      have e2 : eCs acc ++ [.tup [eK q, .lst (eL m)]] = eCs (acc ++ [Cs.mk q m]) := by rw [eCs_app, eCs_one, eC1]
      have e3 : acc ++ Cs.mk q m :: putCs cs k new = (acc ++ [Cs.mk q m]) ++ putCs cs k new := by rw [List.append_assoc]; rfl
      rw [if_neg z, e3]
      unfold eM at ih
      simp [z] at sk
      simp [e_L_1008_1, sk, eM, hsz, e2]
      simpa using ih
theorem put_case {nd : Nd} {k : Ky} {cs : List Cs} {o new : List Nd} (hd : (∃ x, nd = .sel x cs o) ∨ ∃ x f, nd = .plu x f cs o) (z : k ≠ otK) : ∃ a : List D, dCut (eN nd) none (some (-2)) = some (.tup a) ∧ dAdd (.tup a) (.tup [.lst (eCs (putCs cs k new)), .lst (eL o)]) = some (eN (putN nd k new)) := by
  rcases hd with ⟨x, rfl⟩ | ⟨x, f, rfl⟩
  · have ad : ∀ a b c d : D, dAdd (.tup [a, b]) (.tup [c, d]) = some (.tup [a, b, c, d]) := fun _ _ _ _ => dAdd_tup (by simp)
    refine ⟨[.str "select", .str x], by rw [eN]; rfl, ?_⟩
    rw [ad]; unfold putN; simp only [z, if_false]; rw [eN]
  · have ad : ∀ a b c d e : D, dAdd (.tup [a, b, c]) (.tup [d, e]) = some (.tup [a, b, c, d, e]) := fun _ _ _ _ _ => dAdd_tup (by simp)
    refine ⟨[.str "plural", .str x, .int f], by rw [eN]; rfl, ?_⟩
    rw [ad]; unfold putN; simp only [z, if_false]; rw [eN]
theorem put_case0 {nd : Nd} {cs : List Cs} {o new : List Nd} (hd : (∃ x, nd = .sel x cs o) ∨ ∃ x f, nd = .plu x f cs o) : ∃ a : List D, dCut (eN nd) none (some (-2)) = some (.tup a) ∧ dAdd (.tup a) (.tup [.lst (eCs cs), .lst (eL new)]) = some (eN (putN nd otK new)) := by
  rcases hd with ⟨x, rfl⟩ | ⟨x, f, rfl⟩
  · have ad : ∀ a b c d : D, dAdd (.tup [a, b]) (.tup [c, d]) = some (.tup [a, b, c, d]) := fun _ _ _ _ => dAdd_tup (by simp)
    refine ⟨[.str "select", .str x], by rw [eN]; rfl, ?_⟩
    rw [ad]; unfold putN; simp only [if_true]; rw [eN]
  · have ad : ∀ a b c d e : D, dAdd (.tup [a, b, c]) (.tup [d, e]) = some (.tup [a, b, c, d, e]) := fun _ _ _ _ _ => dAdd_tup (by simp)
    refine ⟨[.str "plural", .str x, .int f], by rw [eN]; rfl, ?_⟩
    rw [ad]; unfold putN; simp only [if_true]; rw [eN]
theorem run_lput (inner : List Nd) : ∀ (p : List (Int × Ky)) (n : Nat) {d w : Nat} {m r : List Nd}, w ≤ 5000000 → Fit d w m → POk p → ∀ (S : List D), atP m p = some r → run (p.length + (n + 3)) 1008 [eM m, .tup (ePa p), eM inner] S = .ok (eM (putP m p inner)) S
  | [], n, d, w, m, r, hw, hm, hp, S, e => by
    have z : ([] : List (Int × Ky)).length + (n + 3) = (n + 2) + 1 := by simp
    have pn := path_nil hp
    rw [z, run_1008]
    simp [ePa] at pn
    simp [B_1008, eM, ePa, putP, pn]
  | (i, k) :: p, n, d, w, m, r, hw, hm, hp, S, e => by
    have z : ((i, k) :: p).length + (n + 3) = (p.length + (n + 3)) + 1 := by rw [List.length_cons]; omega
    rw [z, run_1008]
    have pn := path_nil hp
    rw [atP] at e
    cases q : at1 m i k with
    | none => rw [q] at e; cases e
    | some sub =>
      rw [q] at e
      obtain ⟨i0, i1, nd, hn, hs⟩ := at1_some q
      have hk := (hp.q _ List.mem_cons_self).2.2
      have ih := run_lput inner p n hw (at1_fit hm q) hp.tail S e
      obtain ⟨cs, o, hco⟩ := nodeAt_co hs
      have mm := List.mem_of_getElem? hn
      have hd2 := (casesO_facts hco).1
      obtain ⟨i2, i1'⟩ := i_cases hd2
      have hK := wf_K (wfL_mem hm.wf mm) hco
      have cl := cs_le hd2 (Nat.le_trans (mem_lW mm) hm.w) hw
      have ha := atI_nd i0 hn
      have ml := lW_len m
      have mw := hm.w
      have ad1 : ∀ x : Nd, dAdd (.lst (eL (m.take i.toNat))) (.lst [eN x]) = some (.lst (eL (m.take i.toNat ++ [x]))) := fun x => by
        rw [eL_app, eL_one]
        exact if_pos (W_le (by rw [eL_len, List.length_take]; show _ + 1 ≤ _; omega))
      have ad2 : ∀ x : Nd, dAdd (.lst (eL (m.take i.toNat ++ [x]))) (.lst (eL (m.drop (i.toNat + 1)))) = some (.lst (eL (m.take i.toNat ++ [x] ++ m.drop (i.toNat + 1)))) := fun x => by
        rw [eL_app (m.take i.toNat ++ [x])]
        exact if_pos (W_le (by rw [eL_len, eL_len, List.length_append, List.length_take, List.length_drop]; show _ + 1 + _ ≤ _; omega))
      have c1 := cut_take m i i0
      have c2 := cut_drop m (i + 1) (by omega)
      rw [show (i + 1).toNat = i.toNat + 1 by omega] at c2
      have e2 : putP m ((i, k) :: p) inner = m.take i.toNat ++ [putN nd k (putP sub p inner)] ++ m.drop (i.toNat + 1) := by
        rw [putP, q, hn]
      rw [e2]
      have ct := cut_tl (eS (i, k)) (ePa p)
      have a0 : atI (eS (i, k) :: ePa p) 0 = some (eS (i, k)) := at0 _ _
      have es : eS (i, k) = .tup [.int i, eK k] := rfl
      have ep : ePa ((i, k) :: p) = eS (i, k) :: ePa p := rfl
      have ke := cEq_ot hk
      have lp := put_loop (p.length + (n + 2)) hk (x := eS (i, k)) (xs := ePa p) (inner := inner) (new := putP sub p inner) (.val (eM m)) (.val (.int i)) (.val (eN nd)) (.val (.lst (eL o))) S cs [] hK.nd (fun x hx => (hK.pk x hx).1)
      rw [show p.length + (n + 2) + 1 = p.length + (n + 3) by omega] at lp
      rw [ep] at pn ⊢
      rw [es] at ct a0 pn lp ⊢
      unfold nodeAt at hs
      rw [hco] at hs
      by_cases z : k = otK
      · subst z
        simp only [if_true] at hs
        cases hs
        have nk : otK ∉ cs.map cKey := fun y => (hK.pk _ y).2 rfl
        have ln : lkC cs otK = none := by
          cases e : lkC cs otK with
          | none => rfl
          | some s => exact absurd (List.mem_map.mpr ⟨_, lkC_mem e, rfl⟩) nk
        replace lp := lp (fun s hs => by rw [ln] at hs; cases hs) (by simp; omega)
        rw [putCs_none _ nk, List.nil_append, eCs_nil] at lp
        obtain ⟨a, pa, pb⟩ := put_case0 hd2 (new := putP sub p inner)
        unfold eM at ih lp
        simp at ke pn
        simp [B_1008, eM, pn, a0, ha, i2, i1'] at lp ⊢
        simp [lp, ke, ct, ih, pa, pb, c1, c2, ad1, ad2]
      · simp only [z, if_false] at hs
        replace lp := lp (fun s hs2 => by rw [hs] at hs2; cases hs2; exact ih) (by simp; omega)
        rw [List.nil_append, eCs_nil] at lp
        obtain ⟨a, pa, pb⟩ := put_case hd2 (new := putP sub p inner) z
        unfold eM at ih lp
        simp [z] at ke pn
        simp [B_1008, eM, pn, a0, ha, i2, i1'] at lp ⊢
        simp [lp, ke, ct, ih, pa, pb, c1, c2, ad1, ad2]
/-! ### all the paths -/
def pD (p : List (Int × Ky)) : D := .tup (ePa p)
@[simp] theorem ref_pD (p : List (Int × Ky)) (S : List D) : deref S (pD p) = pD p := rfl
def GP (L : Nat) (ps : List (List (Int × Ky))) : Prop := ∀ p ∈ ps, p.length ≤ L ∧ ∀ x ∈ p, 0 ≤ x.1 ∧ x.1 < 10000 ∧ x.2 ∈ PK
theorem GP.nil (L : Nat) : GP L [] := fun p h => by cases h
theorem GP.app {L : Nat} {a b : List (List (Int × Ky))} (h : GP L a) (k : GP L b) : GP L (a ++ b) := fun p hp => by
  rcases List.mem_append.mp hp with z | z
  · exact h p z
  · exact k p z
theorem GP.mono {L L' : Nat} {a : List (List (Int × Ky))} (h : GP L a) (k : L ≤ L') : GP L' a := fun p hp => ⟨Nat.le_trans (h p hp).1 k, (h p hp).2⟩
theorem GP.pre {L : Nat} {a : List (List (Int × Ky))} (h : GP L a) {x : Int × Ky} (hx : 0 ≤ x.1 ∧ x.1 < 10000 ∧ x.2 ∈ PK) : GP (L + 1) (a.map fun p => x :: p) := fun p hp => by
  obtain ⟨q, hq, rfl⟩ := List.mem_map.mp hp
  refine ⟨by rw [List.length_cons]; have := (h q hq).1; omega, fun y hy => ?_⟩
  rcases List.mem_cons.mp hy with rfl | hy
  · exact hx
  · exact (h q hq).2 y hy
def sumW (cs : List Cs) : Nat := (cs.map fun c => 1 + lW (cMsg c)).sum
theorem sumW_le (cs : List Cs) : sumW cs ≤ csW cs := by
  induction cs with
  | nil => exact Nat.zero_le _
  | cons c r ih =>
    rw [csW]
    have e : sumW (c :: r) = (1 + lW (cMsg c)) + sumW r := by unfold sumW; rw [List.map_cons, List.sum_cons]
    have : 1 + lW (cMsg c) ≤ cW c := by cases c with | mk k m => rw [cW, cmm]; omega
    omega
theorem inn_loop (n h : Nat) (v0 v3 : Sl) {j : Int} (hj : 0 ≤ j ∧ j < 10000) (S : List D) : ∀ (cs : List Cs) (acc : List (List (Int × Ky))), (∀ c ∈ cs, cKey c ∈ PK) →
    (∀ c ∈ cs, ∃ ps, run n 1006 [eM (cMsg c)] S = .ok (.lst (ps.map pD)) S ∧ GP h ps ∧ ps.length ≤ lW (cMsg c)) → GP (h + 1) acc → h ≤ 1000 → acc.length + sumW cs ≤ 1000000 →
    ∃ ps, forD (.tp [.nm 4, .nm 5]) [4, 5] (L_1006_2 (run n)) (eCs cs) [v0, .own (.lst (acc.map pD)), .val (.int j), v3, .non, .non, .non] S = .next [v0, .own (.lst (ps.map pD)), .val (.int j), v3, .non, .non, .non] S ∧ GP (h + 1) ps ∧ ps.length ≤ acc.length + sumW cs
  | [], acc, _, _, ha, _, _ => ⟨acc, by rw [eCs]; rfl, ha, Nat.le_add_right _ _⟩
  | c :: cs, acc, hk, hR, ha, hh, hl => by
    obtain ⟨ps, r1, gp, pl⟩ := hR c List.mem_cons_self
    have e : sumW (c :: cs) = (1 + lW (cMsg c)) + sumW cs := by unfold sumW; rw [List.map_cons, List.sum_cons]
    rw [e] at hl ⊢
    have hx : 0 ≤ j ∧ j < 10000 ∧ cKey c ∈ PK := ⟨hj.1, hj.2, hk c List.mem_cons_self⟩
    have g1 : GP (h + 1) [[(j, cKey c)]] := fun p hp => by
      rw [List.mem_singleton] at hp; subst hp
      refine ⟨by simp, fun y hy => ?_⟩
      rw [List.mem_singleton] at hy; subst hy; exact hx
    obtain ⟨qs, f1, g2, l2⟩ := inn_loop n h v0 v3 hj S cs (acc ++ [[(j, cKey c)]] ++ ps.map fun p => (j, cKey c) :: p) (fun x hx => hk x (List.mem_cons_of_mem _ hx)) (fun x hx => hR x (List.mem_cons_of_mem _ hx)) ((ha.app g1).app (gp.pre hx)) hh (by simp only [List.length_append, List.length_map, List.length_singleton]; omega)
    refine ⟨qs, ?_, g2, by simp only [List.length_append, List.length_map, List.length_singleton] at l2; omega⟩
    have hsz : acc.length < sizeLine := by rw [sizeLine_eq]; omega
    have cp := compD_pure (p := .nm 6) (ε := C_1006_1 (run n)) (Γ := [v0, .own (.lst (acc.map pD ++ [.tup [.tup [.int j, eK (cKey c)]]])), .val (.int j), v3, .val (eK (cKey c)), .val (eM (cMsg c)), .non]) (S := S) (f := fun x => match x with | .tup l => .tup (.tup [.int j, eK (cKey c)] :: l) | x => x) (ps.map pD) (fun x hx => by
      obtain ⟨p, hp, rfl⟩ := List.mem_map.mp hx
      refine ⟨_, x_bnm, ?_⟩
      have hpl := (gp p hp).1
      have ad : dAdd (.tup [.tup [.int j, eK (cKey c)]]) (.tup (ePa p)) = some (.tup (.tup [.int j, eK (cKey c)] :: ePa p)) := dAdd_tup (by unfold ePa; rw [List.length_map]; simp; omega)
      simp [e_C_1006_1, pD, ad])
    have mp : (ps.map pD).map (fun x => match x with | .tup l => D.tup (.tup [.int j, eK (cKey c)] :: l) | x => x) = (ps.map fun p => (j, cKey c) :: p).map pD := by
      rw [List.map_map, List.map_map]; rfl
    rw [mp] at cp
    have lk : lenOk ((ps.map fun p => (j, cKey c) :: p).map pD) = some (.lst ((ps.map fun p => (j, cKey c) :: p).map pD)) := lenOk_le (by simp only [List.length_map]; omega)
    have on : onL (.lst (acc.map pD ++ [.tup [.tup [.int j, eK (cKey c)]]])) (.lst ((ps.map fun p => (j, cKey c) :: p).map pD)) = some (.lst ((acc ++ [[(j, cKey c)]] ++ ps.map fun p => (j, cKey c) :: p).map pD)) := by
      have e1 : (.tup [.tup [.int j, eK (cKey c)]] : D) = pD [(j, cKey c)] := rfl
      rw [e1, List.map_append, List.map_append]
      exact if_pos (W_le (by simp only [List.length_append, List.length_map, List.length_singleton]; omega))
    rw [eCs, eC1_eq, forD]
    unfold eM at r1 cp
    simp [e_L_1006_2, hsz, r1]
    simp only [List.map_map] at cp lk on f1 ⊢
    simp [cp, lk, on]
    simpa using f1
theorem tag_inL2 (n : Nd) : cIn (.str (tag n)) (.lst [.str "select", .str "plural"]) = some (.bl (isC n)) := by
  unfold cIn
  have h := tag_dIn n
  have e : dIn (.str (tag n)) (.lst [.str "select", .str "plural"]) = dIn (.str (tag n)) (.tup [.str "select", .str "plural"]) := rfl
  rw [e, h]; rfl
theorem paths_step (n : Nat) {m : List Nd} {nd : Nd} {j : Int} (hj : 0 ≤ j ∧ j < 10000) (hn : m[j.toNat]? = some nd) (hm : wfL true m) (h : Nat) (hh : h ≤ 1000) (hH : nH nd ≤ h) (S : List D)
    (hR : ∀ q, wfL true q → lH q + 1 ≤ nH nd → lW q ≤ nW nd → ∃ ps, run n 1006 [eM q] S = .ok (.lst (ps.map pD)) S ∧ GP (lH q) ps ∧ ps.length ≤ lW q) (acc : List (List (Int × Ky))) (ha : GP h acc) (hl : acc.length + nW nd ≤ 1000000) :
    ∃ ps Γ, L_1006_3 (run n) [.val (eM m), .own (.lst (acc.map pD)), .val (.int j), .non, .non, .non, .non] S = .next Γ S ∧ clr [2, 3, 4, 5] Γ = [.val (eM m), .own (.lst (ps.map pD)), .non, .non, .non, .non, .non] ∧ GP h ps ∧ ps.length ≤ acc.length + nW nd := by
  have hi := atI_nd hj.1 hn
  have tg := tag_inL2 nd
  cases q : casesO nd with
  | none =>
    have ic := casesO_none q
    refine ⟨acc, [.val (eM m), .own (.lst (acc.map pD)), .val (.int j), .val (eN nd), .non, .non, .non], ?_, rfl, ha, by omega⟩
    simp [e_L_1006_3, eM, hi, tg, ic]
  | some co =>
    obtain ⟨cs, o⟩ := co
    obtain ⟨hd, ic⟩ := casesO_facts q
    obtain ⟨i2, i1⟩ := i_cases hd
    have mm := List.mem_of_getElem? hn
    have wn := wfL_mem hm mm
    have hK := wf_K wn q
    have fit : ∀ c ∈ cs ++ [Cs.mk otK o], wfL true (cMsg c) ∧ lH (cMsg c) + 1 ≤ nH nd ∧ lW (cMsg c) ≤ nW nd := fun c hc => by
      have key : wfCs true cs → wfL true o → wfL true (cMsg c) := fun a b => by
        rcases List.mem_append.mp hc with z | z
        · have := wfCs_mem a z
          cases c with | mk k mm => rw [wfC] at this; exact this
        · rw [List.mem_singleton] at z; subst z; exact b
      have hin : cMsg c ∈ inner nd := by
        have : inner nd = cs.map cMsg ++ [o] := by rcases hd with ⟨x, rfl⟩ | ⟨x, f, rfl⟩ <;> rfl
        rw [this]
        rcases List.mem_append.mp hc with z | z
        · exact List.mem_append_left _ (List.mem_map_of_mem z)
        · rw [List.mem_singleton] at z; subst z; exact List.mem_append_right _ (List.mem_singleton.mpr rfl)
      obtain ⟨f1, f2⟩ := inner_facts nd _ hin
      refine ⟨?_, f1, f2⟩
      rcases hd with ⟨x, rfl⟩ | ⟨x, f, rfl⟩
      · rw [wfN] at wn; exact key wn.2.2.1 wn.2.2.2
      · rw [wfN] at wn; exact key wn.2.2.2.1 wn.2.2.2.2
    have sw : sumW (cs ++ [Cs.mk otK o]) ≤ nW nd := by
      have e : sumW (cs ++ [Cs.mk otK o]) = sumW cs + (1 + lW o) := by unfold sumW; rw [List.map_append, List.sum_append]; simp [cmm]
      have := sumW_le cs
      rcases hd with ⟨x, rfl⟩ | ⟨x, f, rfl⟩ <;> rw [nW] <;> omega
    have h1 : 1 ≤ nH nd := by have := (fit (Cs.mk otK o) (List.mem_append_right _ (List.mem_singleton.mpr rfl))).2.1; omega
    have cl : cs.length ≤ 1000000 := by
      have := csW_len cs
      have : csW cs ≤ nW nd := by rcases hd with ⟨x, rfl⟩ | ⟨x, f, rfl⟩ <;> rw [nW] <;> omega
      omega
    have eo : (.tup [.str "other", .lst (eL o)] : D) = eC1 (Cs.mk otK o) := by rw [eC1]; rfl
    have ad : dAdd (.lst (eCs cs)) (.lst [.tup [.str "other", .lst (eL o)]]) = some (.lst (eCs (cs ++ [Cs.mk otK o]))) := by
      rw [eCs_app, eCs_one, eo]
      exact if_pos (W_le (by rw [eCs_len]; show cs.length + 1 ≤ _; omega))
    obtain ⟨ps, f1, g1, l1⟩ := inn_loop n (h - 1) (.val (eM m)) (.val (eN nd)) hj S (cs ++ [Cs.mk otK o]) acc (fun c hc => by
        rcases List.mem_append.mp hc with z | z
        · exact (hK.pk _ (List.mem_map_of_mem z)).1
        · rw [List.mem_singleton] at z; subst z; exact otK_in)
      (fun c hc => by
        obtain ⟨a, b, cc⟩ := fit c hc
        obtain ⟨ps, r, g, l⟩ := hR _ a b cc
        exact ⟨ps, r, g.mono (by omega), l⟩) (by rw [show h - 1 + 1 = h by omega]; exact ha) (by omega) (by omega)
    rw [show h - 1 + 1 = h by omega] at g1
    refine ⟨ps, [.val (eM m), .own (.lst (ps.map pD)), .val (.int j), .val (eN nd), .non, .non, .non], ?_, rfl, g1, by omega⟩
    unfold eM at f1
    simp [e_L_1006_3, eM, hi, tg, ic, i2, i1, ad]
    simpa using f1
theorem paths_loop (n : Nat) {m : List Nd} (hm : wfL true m) (hh : lH m ≤ 1000) (S : List D)
    (hR : ∀ nd ∈ m, ∀ q, wfL true q → lH q + 1 ≤ nH nd → lW q ≤ nW nd → ∃ ps, run n 1006 [eM q] S = .ok (.lst (ps.map pD)) S ∧ GP (lH q) ps ∧ ps.length ≤ lW q) : ∀ (rest pre : List Nd) (acc : List (List (Int × Ky))), m = pre ++ rest → m.length ≤ 10000 → GP (lH m) acc → acc.length + lW rest ≤ 1000000 →
    ∃ ps, forD (.nm 2) [2, 3, 4, 5] (L_1006_3 (run n)) ((List.range' pre.length rest.length).map fun (k : Nat) => D.int k) [.val (eM m), .own (.lst (acc.map pD)), .non, .non, .non, .non, .non] S = .next [.val (eM m), .own (.lst (ps.map pD)), .non, .non, .non, .non, .non] S ∧ GP (lH m) ps ∧ ps.length ≤ acc.length + lW rest
  | [], pre, acc, e, _, ha, _ => ⟨acc, rfl, ha, Nat.le_add_right _ _⟩
  | nd :: rest, pre, acc, e, hl4, ha, hl => by
    have hn : m[pre.length]? = some nd := by rw [e, List.getElem?_append_right (Nat.le_refl _), Nat.sub_self]; rfl
    have mm := List.mem_of_getElem? hn
    have lt : pre.length < m.length := (List.getElem?_eq_some_iff.mp hn).1
    rw [lW] at hl ⊢
    obtain ⟨ps, Γ, s1, s2, g1, l1⟩ := paths_step n (j := (pre.length : Int)) ⟨by omega, by omega⟩ (by simpa using hn) hm (lH m) hh (mem_lH mm) S (hR nd mm) acc ha (by omega)
    obtain ⟨qs, f1, g2, l2⟩ := paths_loop n hm hh S hR rest (pre ++ [nd]) ps (by rw [e, List.append_assoc]; rfl) hl4 g1 (by omega)
    refine ⟨qs, ?_, g2, by omega⟩
    rw [List.length_cons, List.range'_succ, List.map_cons, forD, x_bnm]
    simp only [List.set]
    rw [s1]
    simp only [s2]
    rw [List.length_append, List.length_singleton] at f1
    exact f1
theorem run_paths : ∀ (n : Nat) (m : List Nd) (S : List D), wfL true m → lW m ≤ 399999 → lH m + 1 ≤ n → lH m ≤ 1000 → ∃ ps, run n 1006 [eM m] S = .ok (.lst (ps.map pD)) S ∧ GP (lH m) ps ∧ ps.length ≤ lW m
  | 0, m, S, _, _, h, _ => by omega
  | n + 1, m, S, hm, hw, hn, hh => by
    have ml := lW_len m
    obtain ⟨ps, f1, g1, l1⟩ := paths_loop n hm hh S (fun nd hx q hq q1 q2 => by
      have h1 := mem_lH hx
      have h2 := mem_lW hx
      exact run_paths n q S hq (by omega) (by omega) (by omega)) m [] [] rfl (by omega) (GP.nil _) (by simp; omega)
    refine ⟨ps, ?_, g1, by simpa using l1⟩
    rw [run_1006]
    have hr : rangeD 0 m.length = (List.range' 0 m.length).map fun (k : Nat) => D.int k := by unfold rangeD; rw [List.range_eq_range']; simp
    have il : inR (m.length : Int) = true := inR_of (by omega)
    unfold eM at f1 ⊢
    simp [B_1006, il, hr] at f1 ⊢
    simp [f1]

end
section
open PySem L2 DL
/-! ### a path that is drawn -/
theorem pickK {xs : List Ky} {r : Int} (h0 : 0 ≤ r) (h1 : r < xs.length) : ∃ x ∈ xs, atI (xs.map eK) r = some (eK x) := by
  obtain ⟨d, hd, e⟩ := pick (xs := xs.map eK) h0 (by rw [List.length_map]; exact h1)
  obtain ⟨x, hx, rfl⟩ := List.mem_map.mp hd
  exact ⟨x, hx, e⟩
theorem cut_init (xs : List D) (x : D) : cutD (xs ++ [x]) none (some (-1)) = xs := by
  unfold cutD
  have e : HT.sIx (xs ++ [x]).length (xs ++ [x]).length (some (-1)) = xs.length := by
    unfold HT.sIx
    simp only
    rw [if_pos (by decide), List.length_append, List.length_singleton]
    omega
  rw [HT.sIx_none, e]
  simp
theorem ePa_app (a b : List (Int × Ky)) : ePa (a ++ b) = ePa a ++ ePa b := by unfold ePa; rw [List.map_append]
theorem ePa_nil : ePa [] = [] := rfl
theorem ePa_len (p : List (Int × Ky)) : (ePa p).length = p.length := by unfold ePa; rw [List.length_map]
theorem run_path {r : List D} (n : Nat) {m : List Nd} (S : List D) (hS : BxR r S) (hm : wfL true m) (hw : lW m ≤ 399999) (hh : lH m ≤ 30) (hn : 32 ≤ n) :
    ∃ p S', run (n + 2) 1009 [.ptr 0, eM m] S = .ok (pD p) S' ∧ BxR r S' ∧ POk p := by
  rw [run_1009]
  obtain ⟨ps, r1, gp, pl⟩ := run_paths (n + 1) m S hm hw (by omega) (by omega)
  obtain ⟨a, S1, h1, hS1, a0, _⟩ := run_draw n 900 (by decide) S hS
  have ad : dAdd (.lst [.tup []]) (.lst (ps.map pD)) = some (.lst (([] :: ps).map pD)) := by
    rw [List.map_cons]
    exact if_pos (W_le (by simp only [List.length_map, List.length_singleton]; omega))
  have lp : (0 : Int) < ((ps.length : Int) + 1) := by omega
  obtain ⟨d, hd, e⟩ := pick (xs := ([] :: ps).map pD) (r := a % ((ps.length : Int) + 1)) (Int.emod_nonneg _ (by omega)) (by rw [List.length_map, List.length_cons]; exact_mod_cast Int.emod_lt_of_pos _ lp)
  obtain ⟨p, hp, rfl⟩ := List.mem_map.mp hd
  have hpk : p.length ≤ 30 ∧ ∀ x ∈ p, 0 ≤ x.1 ∧ x.1 < 10000 ∧ x.2 ∈ PK := by
    rcases List.mem_cons.mp hp with z | z
    · subst z; exact ⟨by simp, fun x hx => by cases hx⟩
    · exact ⟨Nat.le_trans (gp p z).1 hh, (gp p z).2⟩
  have pok : POk p := ⟨by omega, fun x hx => ⟨by have := (hpk.2 x hx).1; omega, by have := (hpk.2 x hx).2.1; omega, (hpk.2 x hx).2.2⟩⟩
  obtain ⟨b, S2, h2, hS2, b0, b8⟩ := run_draw n 8 (by decide) S1 hS1
  have pn := path_nilN pok
  rw [List.map_cons] at ad e
  have e0 : pD [] = .tup [] := rfl
  rw [e0] at ad e
  by_cases c0 : b = 0
  · subst c0
    obtain ⟨u, S3, h3, hS3, u0, u5⟩ := run_draw n 5 (by decide) S2 hS2
    obtain ⟨v, S4, h4, hS4, v0, v4⟩ := run_draw n 4 (by decide) S3 hS3
    obtain ⟨k, hk, ek⟩ := pickK (xs := [otK, .s "he", .i 0, .s "one"]) v0 (by exact v4)
    have ek2 : atI [D.str "other", .str "he", .int 0, .str "one"] v = some (eK k) := ek
    have kp : k ∈ PK := by
      have : ∀ k ∈ ([otK, .s "he", .i 0, .s "one"] : List Ky), k ∈ PK := by decide
      exact this k hk
    have ad2 : dAdd (.tup (ePa p)) (.tup [.tup [.int (u - 1), eK k]]) = some (pD (p ++ [(u - 1, k)])) := by
      have : (pD (p ++ [(u - 1, k)])) = .tup (ePa p ++ [.tup [.int (u - 1), eK k]]) := by unfold pD; rw [ePa_app]; rfl
      rw [this]
      exact dAdd_tup (by rw [ePa_len]; simp; omega)
    refine ⟨p ++ [(u - 1, k)], S4, ?_, hS4, by simp; omega, fun x hx => ?_⟩
    · replace e : atI (.tup [] :: ps.map pD) (a % ((ps.length : Int) + 1)) = some (.tup (ePa p)) := e
      simp [B_1009, r1, ad, h1, lp] at e ⊢
      simp [e, h2, h3, h4, ek2, ad2]
    · rcases List.mem_append.mp hx with z | z
      · exact pok.q x z
      · rw [List.mem_singleton] at z; subst z; exact ⟨by show -1 ≤ u - 1; omega, by show u - 1 ≤ 10000; omega, kp⟩
  · have c0b : (b == 0) = false := by simpa using c0
    by_cases c1 : b = 1 ∧ p ≠ []
    · obtain ⟨rfl, pne⟩ := c1
      obtain ⟨q, ⟨i, k⟩, rfl⟩ : ∃ q x, p = q ++ [x] := ⟨p.dropLast, p.getLast pne, (List.dropLast_concat_getLast pne).symm⟩
      obtain ⟨v, S4, h4, hS4, v0, v4⟩ := run_draw n 4 (by decide) S2 hS2
      obtain ⟨k2, hk, ek⟩ := pickK (xs := [.i 7, .s "it", .s "many", .i 1]) v0 (by exact v4)
      have ek2 : atI [D.int 7, .str "it", .str "many", .int 1] v = some (eK k2) := ek
      have kp : k2 ∈ PK := by
        have : ∀ k ∈ ([.i 7, .s "it", .s "many", .i 1] : List Ky), k ∈ PK := by decide
        exact this k2 hk
      have pe : pD (q ++ [(i, k)]) = .tup (ePa q ++ [.tup [.int i, eK k]]) := by unfold pD; rw [ePa_app]; rfl
      have la : atI (ePa q ++ [D.tup [.int i, eK k]]) (-1) = some (.tup [.int i, eK k]) := by rw [atI_neg1, List.getLast?_concat]
      have ci := cut_init (ePa q) (.tup [.int i, eK k])
      have ql : q.length ≤ 29 := by have := hpk.1; simp at this; omega
      have ad2 : dAdd (.tup (ePa q)) (.tup [.tup [.int i, eK k2]]) = some (.tup (ePa q ++ [.tup [.int i, eK k2]])) := dAdd_tup (by rw [ePa_len]; simp; omega)
      have pe2 : pD (q ++ [(i, k2)]) = .tup (ePa q ++ [.tup [.int i, eK k2]]) := by unfold pD; rw [ePa_app]; rfl
      refine ⟨q ++ [(i, k2)], S4, ?_, hS4, by simp; omega, fun x hx => ?_⟩
      · have pn2 : cNe (.tup (ePa q ++ [.tup [.int i, eK k]])) (.tup []) = some (.bl true) := by
          have : ePa (q ++ [(i, k)]) = ePa q ++ [.tup [.int i, eK k]] := by rw [ePa_app]; rfl
          rw [this] at pn
          rw [pn]; simp
        rw [pe] at e
        rw [pe2]
        simp [B_1009, r1, ad, h1, lp] at e ⊢
        simp [e, h2, pn2, la, ci, h4, ek2, ad2]
      · rcases List.mem_append.mp hx with z | z
        · exact pok.q x (List.mem_append_left _ z)
        · rw [List.mem_singleton] at z; subst z
          have := pok.q (i, k) (List.mem_append_right _ (List.mem_singleton.mpr rfl))
          exact ⟨this.1, this.2.1, kp⟩
    · by_cases c2 : b = 2 ∧ p ≠ []
      · obtain ⟨rfl, pne⟩ := c2
        obtain ⟨⟨i, k⟩, q, rfl⟩ : ∃ x q, p = x :: q := by
          cases p with
          | nil => exact absurd rfl pne
          | cons x q => exact ⟨x, q, rfl⟩
        have hx := hpk.2 (i, k) List.mem_cons_self
        have pe : pD ((i, k) :: q) = .tup (.tup [.int i, eK k] :: ePa q) := rfl
        have a0' : atI (D.tup [.int i, eK k] :: ePa q) 0 = some (.tup [.int i, eK k]) := at0 _ _
        have b0' : atI [D.int i, eK k] 0 = some (.int i) := rfl
        have b1' : atI [D.int i, eK k] 1 = some (eK k) := rfl
        have ct := cut_tl (.tup [.int i, eK k]) (ePa q)
        have ql : q.length ≤ 29 := by have := hpk.1; simp at this; omega
        have ad2 : dAdd (.tup [.tup [.int (i + 1), eK k]]) (.tup (ePa q)) = some (.tup (.tup [.int (i + 1), eK k] :: ePa q)) := dAdd_tup (by rw [ePa_len]; simp; omega)
        have pn2 : cNe (.tup (.tup [.int i, eK k] :: ePa q)) (.tup []) = some (.bl true) := by
          have : ePa ((i, k) :: q) = .tup [.int i, eK k] :: ePa q := rfl
          rw [this] at pn
          rw [pn]; simp
        refine ⟨(i + 1, k) :: q, S2, ?_, hS2, by simp; omega, fun x hx2 => ?_⟩
        · rw [pe] at e
          have pe2 : pD ((i + 1, k) :: q) = .tup (.tup [.int (i + 1), eK k] :: ePa q) := rfl
          rw [pe2]
          simp [B_1009, r1, ad, h1, lp] at e ⊢
          simp [e, h2, pn2, a0', b0', b1', ct, ad2]
        · rcases List.mem_cons.mp hx2 with z | z
          · subst z; exact ⟨by show -1 ≤ i + 1; omega, by show i + 1 ≤ 10000; omega, hx.2.2⟩
          · exact pok.q x (List.mem_cons_of_mem _ z)
      · refine ⟨p, S2, ?_, hS2, pok⟩
        have b1 : b = 1 → p = [] := fun z => Classical.byContradiction fun y => c1 ⟨z, y⟩
        have b2 : b = 2 → p = [] := fun z => Classical.byContradiction fun y => c2 ⟨z, y⟩
        replace e : atI (.tup [] :: ps.map pD) (a % ((ps.length : Int) + 1)) = some (.tup (ePa p)) := e
        show _ = Res.ok (D.tup (ePa p)) S2
        simp [B_1009, r1, ad, h1, lp] at e ⊢
        by_cases z1 : b = 1
        · have pnil := b1 z1
          subst pnil
          subst z1
          rw [ePa_nil] at pn e
          simp at pn
          simp [e, h2, pn, ePa_nil]
        · have z1b : (b == 1) = false := by simpa using z1
          by_cases z2 : b = 2
          · have pnil := b2 z2
            subst pnil
            subst z2
            rw [ePa_nil] at pn e
            simp at pn
            simp [e, h2, pn, ePa_nil]
          · have z2b : (b == 2) = false := by simpa using z2
            simp [e, h2, c0, c0b, z1, z1b, z2, z2b]

end
section
open PySem L2 DL
/-! ### the plain form: well formed, no deeper, no greater -/
theorem sOk_iff (x : Str) : sOk x = true ↔ ∀ c ∈ x.cps.toList, c < 0x110000 := by
  have h : sOk x = x.cps.all (fun c => decide (c < 0x110000)) := rfl
  rw [h, ← Array.all_toList, List.all_eq_true]
  simp only [decide_eq_true_iff]
theorem sOk_app {x y : Str} (h : sOk x = true) (k : sOk y = true) : sOk (x ++ y) = true := by
  rw [sOk_iff] at h k ⊢
  intro c hc
  have e : (x ++ y).cps = x.cps ++ y.cps := rfl
  rw [e, Array.toList_append] at hc
  rcases List.mem_append.mp hc with z | z
  · exact h c z
  · exact k c z
theorem wfT (x : Str) : wfN true (.text x) := by rw [wfN]; trivial
theorem snoc_f {a : List Nd} {k : Nd} (h1 : wfL true a) (h2 : lOk a = true) (h3 : wfN true k) (h4 : nOk k = true) : wfL true (a ++ [k]) ∧ lOk (a ++ [k]) = true ∧ lH (a ++ [k]) ≤ max (lH a) (nH k) :=
  ⟨wfL_app h1 (wfL_one h3), by rw [lOk_app, h2, lOk, lOk, h4]; rfl, by rw [lH_app, lH, lH]; omega⟩
theorem plS_f {acc : List Nd} {n n' : Nd} (a1 : wfL true acc) (a2 : lOk acc = true) (b1 : wfN true n') (b2 : nOk n' = true) (b3 : ∀ x, n = .text x → sOk x = true) :
    wfL true (plS acc n n') ∧ lOk (plS acc n n') = true ∧ lH (plS acc n n') ≤ max (lH acc) (nH n') := by
  have tx : ∀ x, n = .text x → ∀ a, wfL true a → lOk a = true → lH a ≤ lH acc → wfL true (a ++ [.text x]) ∧ lOk (a ++ [.text x]) = true ∧ lH (a ++ [.text x]) ≤ max (lH acc) (nH n') := fun x e a h1 h2 h3 => by
    have s := snoc_f h1 h2 (wfT x) (by rw [nOk]; exact b3 x e)
    have t := s.2.2
    rw [nH] at t
    exact ⟨s.1, s.2.1, by omega⟩
  rcases List.eq_nil_or_concat acc with rfl | ⟨a, l, rfl⟩
  · cases n with
    | text x =>
      rw [plS_nil]; simp only
      split
      · exact ⟨a1, a2, by omega⟩
      · exact tx x rfl [] a1 a2 (Nat.le_refl _)
    | _ => rw [plS_nil]; simp only; exact snoc_f a1 a2 b1 b2
  · rw [List.concat_eq_append] at a1 a2 tx ⊢
    obtain ⟨w1, w2⟩ := wfL_split a1
    have o := a2
    rw [lOk_app, lOk, lOk, Bool.and_eq_true, Bool.and_true] at o
    rw [plS_concat]
    cases n with
    | text x =>
      cases l with
      | text y =>
        simp only
        have o2 := o.2
        rw [nOk] at o2
        have s := snoc_f w1 o.1 (wfT (y ++ x)) (by rw [nOk]; exact sOk_app o2 (b3 x rfl))
        have t := s.2.2
        rw [nH] at t
        have e := lH_app a [Nd.text y]
        exact ⟨s.1, s.2.1, by omega⟩
      | _ =>
        simp only
        split
        · exact ⟨a1, a2, by omega⟩
        · exact tx x rfl _ a1 a2 (Nat.le_refl _)
    | _ => simp only; exact snoc_f a1 a2 b1 b2
theorem wfL0 : wfL true [] := by rw [wfL]; trivial
theorem lOk0 : lOk [] = true := by rw [lOk]
mutual
theorem plN_f : ∀ n : Nd, wfN true n → nOk n = true → wfN true (plN n) ∧ nOk (plN n) = true ∧ nH (plN n) ≤ nH n
  | .text x, h, k => by rw [plN]; exact ⟨h, k, Nat.le_refl _⟩
  | .shw x, h, k => by rw [plN]; exact ⟨h, k, Nat.le_refl _⟩
  | .num, h, k => by rw [plN]; exact ⟨h, k, Nat.le_refl _⟩
  | .sel n cs o, h, k => by
    rw [wfN] at h; rw [nOk, Bool.and_eq_true, Bool.and_eq_true] at k
    obtain ⟨a1, a2, a3, a4⟩ := plCs_f cs h.2.2.1 k.1.2
    obtain ⟨b1, b2, b3⟩ := plA_f [] o wfL0 lOk0 h.2.2.2 k.2
    rw [plN]
    refine ⟨by rw [wfN, a4]; exact ⟨h.1, h.2.1, a1, b1⟩, by rw [nOk, k.1.1, a2, b2]; rfl, ?_⟩
    have z : lH [] = 0 := by rw [lH]
    rw [nH, nH]; omega
  | .plu n f cs o, h, k => by
    rw [wfN] at h; rw [nOk, Bool.and_eq_true, Bool.and_eq_true, Bool.and_eq_true] at k
    obtain ⟨a1, a2, a3, a4⟩ := plCs_f cs h.2.2.2.1 k.1.2
    obtain ⟨b1, b2, b3⟩ := plA_f [] o wfL0 lOk0 h.2.2.2.2 k.2
    rw [plN]
    refine ⟨by rw [wfN, a4]; exact ⟨h.1, h.2.1, h.2.2.1, a1, b1⟩, by rw [nOk, k.1.1.1, k.1.1.2, a2, b2]; rfl, ?_⟩
    have z : lH [] = 0 := by rw [lH]
    rw [nH, nH]; omega
theorem plA_f : ∀ (acc m : List Nd), wfL true acc → lOk acc = true → wfL true m → lOk m = true → wfL true (plA acc m) ∧ lOk (plA acc m) = true ∧ lH (plA acc m) ≤ max (lH acc) (lH m)
  | acc, [], h1, h2, _, _ => by rw [plA]; exact ⟨h1, h2, by omega⟩
  | acc, n :: r, h1, h2, h3, h4 => by
    rw [wfL] at h3; rw [lOk, Bool.and_eq_true] at h4
    obtain ⟨c1, c2, c3⟩ := plN_f n h3.1 h4.1
    obtain ⟨d1, d2, d3⟩ := plS_f (n := n) h1 h2 c1 c2 (fun x e => by have := h4.1; rw [e, nOk] at this; exact this)
    obtain ⟨e1, e2, e3⟩ := plA_f (plS acc n (plN n)) r d1 d2 h3.2 h4.2
    rw [plA, lH]
    exact ⟨e1, e2, by omega⟩
theorem plC_f : ∀ c : Cs, wfC true c → cOk c = true → wfC true (plC c) ∧ cOk (plC c) = true ∧ cH (plC c) ≤ cH c ∧ cKey (plC c) = cKey c
  | .mk k m, h, o => by
    rw [wfC] at h; rw [cOk, Bool.and_eq_true] at o
    obtain ⟨b1, b2, b3⟩ := plA_f [] m wfL0 lOk0 h o.2
    have z : lH [] = 0 := by rw [lH]
    rw [plC]
    exact ⟨by rw [wfC]; exact b1, by rw [cOk, o.1, b2]; rfl, by rw [cH, cH]; omega, rfl⟩
theorem plCs_f : ∀ cs : List Cs, wfCs true cs → csOk cs = true → wfCs true (plCs cs) ∧ csOk (plCs cs) = true ∧ csH (plCs cs) ≤ csH cs ∧ (plCs cs).map cKey = cs.map cKey
  | [], h, o => by rw [plCs]; exact ⟨h, o, Nat.le_refl _, rfl⟩
  | c :: r, h, o => by
    rw [wfCs] at h; rw [csOk, Bool.and_eq_true] at o
    obtain ⟨a1, a2, a3, a4⟩ := plC_f c h.1 o.1
    obtain ⟨b1, b2, b3, b4⟩ := plCs_f r h.2 o.2
    rw [plCs]
    exact ⟨by rw [wfCs]; exact ⟨a1, b1⟩, by rw [csOk, a2, b2]; rfl, by rw [csH, csH]; omega, by rw [List.map_cons, List.map_cons, a4, b4]⟩
end
theorem plain_fit {d w : Nat} {m : List Nd} (h : Fit d w m) : Fit d w (plA [] m) := by
  obtain ⟨a, b, c⟩ := plA_f [] m wfL0 lOk0 h.wf h.ok
  have z : lH [] = 0 := by rw [lH]
  have hw := plA_W [] m
  have z2 : lW [] = 0 := by rw [lW]
  have hh := h.h
  have ww := h.w
  exact ⟨a, b, by omega, by omega⟩
/-! ### the law's own plain form -/
theorem lpl_step (n : Nat) (m0 : D) (acc : List Nd) (nd : Nd) (S : List D) (hw : lW acc + nW nd ≤ 5000000)
    (hR : ∀ q ∈ inner nd, run n 1010 [eM q] S = .ok (eM (plA [] q)) S) :
    ∃ v, L_1010_2 (run n) [.val m0, .own (.lst (eL acc)), .val (eN nd), .non, .non, .non] S = .next [.val m0, .own (.lst (eL (plS acc nd (plN nd)))), .val (eN nd), v, .non, .non] S := by
  have ln := lW_len acc
  have hl : acc.length < sizeLine := Nat.lt_of_le_of_lt (show acc.length ≤ 5000000 by omega) (by decide)
  have tn := tag_text nd
  have ti := tag_inL2 nd
  have e3 : ∀ (a : List Nd) z, eL a ++ [eN z] = eL (a ++ [z]) := fun a z => by rw [eL_app, eL_one]
  have other : ∀ z, isT nd = false → isC nd = false → plS acc nd z = acc ++ [z] := fun z h _ => by cases nd <;> first | rfl | cases h
  cases q : casesO nd with
  | some co =>
    obtain ⟨cs, o⟩ := co
    obtain ⟨hd, ic⟩ := casesO_facts q
    obtain ⟨i2, i1⟩ := i_cases hd
    have nt : isT nd = false := by rcases hd with ⟨x, rfl⟩ | ⟨x, f, rfl⟩ <;> rfl
    have inn : inner nd = cs.map cMsg ++ [o] := by rcases hd with ⟨x, rfl⟩ | ⟨x, f, rfl⟩ <;> rfl
    have ro := hR o (by rw [inn]; exact List.mem_append_right _ (List.mem_singleton.mpr rfl))
    have comp := comp_cases (ε := C_1010_1 (run n)) (Γ := [.val m0, .own (.lst (eL acc)), .val (eN nd), .non, .non, .non]) (S := S) (i := 4) (j := 5) (fun c => eC1 (plC c)) cs fun c hcm => by
      have := hR (cMsg c) (by rw [inn]; exact List.mem_append_left _ (List.mem_map_of_mem hcm))
      unfold eM at this
      cases c with
      | mk k m =>
        simp only [cMsg, cKey] at this ⊢
        simp [e_C_1010_1, this, plC, eC1]
    have em : cs.map (fun c => eC1 (plC c)) = eCs (plCs cs) := by rw [eCs_map, plCs_map, List.map_map]; rfl
    rw [em] at comp
    have cl : cs.length ≤ 1000000 := by
      have := csW_len cs
      have : csW cs ≤ nW nd := by rcases hd with ⟨x, rfl⟩ | ⟨x, f, rfl⟩ <;> rw [nW] <;> omega
      omega
    have lk : lenOk (eCs (plCs cs)) = some (.lst (eCs (plCs cs))) := lenOk_le (by rw [eCs_len, plCs_map, List.length_map]; omega)
    obtain ⟨a, pa, pb⟩ : ∃ a : List D, dCut (eN nd) none (some (-2)) = some (.tup a) ∧ dAdd (.tup a) (.tup [.lst (eCs (plCs cs)), .lst (eL (plA [] o))]) = some (eN (plN nd)) := by
      rcases hd with ⟨x, rfl⟩ | ⟨x, f, rfl⟩
      · refine ⟨[.str "select", .str x], by rw [eN]; rfl, ?_⟩
        rw [plN, eN]; exact dAdd_tup (by simp)
      · refine ⟨[.str "plural", .str x, .int f], by rw [eN]; rfl, ?_⟩
        rw [plN, eN]; exact dAdd_tup (by simp)
    have ps : plS acc nd (plN nd) = acc ++ [plN nd] := by rcases hd with ⟨x, rfl⟩ | ⟨x, f, rfl⟩ <;> rfl
    rw [ps]
    unfold eM at ro
    refine ⟨.val (.lst (eCs (plCs cs))), ?_⟩
    rw [e_L_1010_2]
    simp [tn, nt, ti, ic, i2] at comp ⊢
    simp [comp, lk, i1, ro, pa, pb, hl, e3]
  | none =>
    have ic := casesO_none q
    refine ⟨.non, ?_⟩
    rw [e_L_1010_2]
    by_cases nt : isT nd = false
    · have ps := other nd nt ic
      have pe : plN nd = nd := by cases nd <;> first | (rw [plN]; done) | (cases ic; done) | (cases nt; done)
      rw [pe, ps]
      simp [tn, nt, ti, ic, hl, e3]
    · obtain ⟨x, rfl⟩ : ∃ x, nd = .text x := by cases nd <;> first | exact ⟨_, rfl⟩ | exact absurd rfl nt
      rcases List.eq_nil_or_concat acc with rfl | ⟨a, l, rfl⟩
      · by_cases hx : x = ""
        · subst hx
          simp [tn, isT, plS]
        · have hx2 : (x == "") = false := by simpa using hx
          have one : eL [Nd.text x] = [eN (.text x)] := eL_one _
          simp [tn, isT, plS, hx, hx2, one, s0]
      · rw [List.concat_eq_append] at hl hw ln ⊢
        have ea : eL (a ++ [l]) = eL a ++ [eN l] := by rw [eL_app, eL_one]
        have la : atI (eL a ++ [eN l]) (-1) = some (eN l) := by rw [atI_neg1, List.getLast?_concat]
        have tl := tag_text l
        have hl2 : a.length + 1 < sizeLine := by rw [List.length_append] at hl; exact hl
        have ix := ixm1 a.length
        have st := set_last a l
        have e2 : ∀ z, eL (a ++ [l, z]) = eL a ++ [eN l, eN z] := fun z => by rw [eL_app, eL, eL_one]
        have e3' : ∀ z, eL (a ++ [z]) = eL a ++ [eN z] := fun z => by rw [eL_app, eL_one]
        have lp : (0 : Int) < (a.length : Int) + 1 := by omega
        rw [plS_concat]
        cases l with
        | text y =>
          have sz : y.length + x.length ≤ sizeLine := W_le (by
            rw [lW_app] at hw
            simp only [lW, nW] at hw; omega)
          have da : dAdd (.str y) (.str x) = some (.str (y ++ x)) := if_pos sz
          have en : eN (.text (y ++ x)) = .tup [.str "text", .str (y ++ x)] := by rw [eN]
          simp [tn, isT, ea, la, tl, ix, st, da, e3', en, lp]
        | _ =>
          by_cases hx : x = ""
          · subst hx
            simp [tn, isT, ea, la, tl, lp]
          · have hx2 : (x == "") = false := by simpa using hx
            simp [tn, isT, ea, la, tl, hx, hx2, hl2, e2, lp]
theorem lpl_loop (n : Nat) (m0 : D) (S : List D) : ∀ (m acc : List Nd), (∀ nd ∈ m, ∀ q ∈ inner nd, run n 1010 [eM q] S = .ok (eM (plA [] q)) S) → lW acc + lW m ≤ 5000000 →
    forD (.nm 2) [2, 3] (L_1010_2 (run n)) (eL m) [.val m0, .own (.lst (eL acc)), .non, .non, .non, .non] S = .next [.val m0, .own (.lst (eL (plA acc m))), .non, .non, .non, .non] S
  | [], acc, _, _ => by rw [eL, plA, forD]
  | nd :: r, acc, hR, hw => by
    rw [lW] at hw
    obtain ⟨v, hs⟩ := lpl_step n m0 acc nd S (by omega) (hR nd List.mem_cons_self)
    have ih := lpl_loop n m0 S r (plS acc nd (plN nd)) (fun x hx => hR x (List.mem_cons_of_mem _ hx)) (by have := plS_W acc nd (plN nd) (plN_W nd); omega)
    rw [eL, plA, forD, x_bnm]
    simp only [List.set]
    rw [hs]
    simp only [x_clr1, x_clr0, List.set]
    exact ih
theorem run_lpl : ∀ (n : Nat) (m : List Nd) (S : List D), lH m + 1 ≤ n → lW m ≤ 5000000 → run n 1010 [eM m] S = .ok (eM (plA [] m)) S
  | 0, m, S, h, _ => by omega
  | n + 1, m, S, h, hw => by
    have lp := lpl_loop n (eM m) S m [] (fun nd hx q hq => by
      obtain ⟨f1, f2⟩ := inner_facts nd q hq
      have h1 := mem_lH hx
      have h2 := mem_lW hx
      exact run_lpl n q S (by omega) (by omega)) (by rw [lW]; omega)
    rw [run_1010]
    rw [eL_nil] at lp
    unfold eM at lp ⊢
    simp [B_1010, lp]
theorem run_pl (n : Nat) (m : List Nd) (S : List D) (ho : lOk m = true) (hh : 2 * lH m + 2 ≤ n) (h40 : lH m ≤ 40) (hw : lW m ≤ 5000000) : run n 5 [eM m] S = .ok (eM (plA [] m)) S := (plain_both n).2 m S ho h40 hw hh

end
section
open PySem L2 DL
/-! ### messages by keys -/
abbrev Stt := List (Str × List Nd)
def KS : List Str := ["a", "b", "files", "zz"]
def sK (st : Stt) : List Key := st.map fun x => .inr x.1
def sX (st : Stt) : List D := st.map fun x => eM x.2
abbrev dSt (st : Stt) : D := .dct (sK st) (sX st)
def getS : Stt → Str → Option (List Nd)
  | [], _ => none
  | x :: r, k => if x.1 = k then some x.2 else getS r k
def hasS (st : Stt) (k : Str) : Bool := (getS st k).isSome
def ovS (st : Stt) (k : Str) (m : List Nd) : Stt := st.map fun x => if x.1 = k then (x.1, m) else x
def putS (st : Stt) (k : Str) (m : List Nd) : Stt := if hasS st k = true then ovS st k m else st ++ [(k, m)]
def delS (st : Stt) (k : Str) : Stt := st.filter fun x => !decide (x.1 = k)
theorem inr_ne {a b : Str} (e : ¬ a = b) : ¬ (Sum.inr a : Key) = .inr b := fun z => e (by cases z; rfl)
@[simp] theorem dGet_S (k : Str) : ∀ st : Stt, dGet (sK st) (sX st) (.inr k) = (getS st k).map eM
  | [] => by unfold dGet getS; rfl
  | x :: r => by
    show dGet (.inr x.1 :: sK r) (eM x.2 :: sX r) _ = _
    rw [dGet, getS, dGet_S k r]
    by_cases e : x.1 = k
    · subst e; rw [if_pos rfl, if_pos rfl]; rfl
    · rw [if_neg e, if_neg (inr_ne e)]
theorem any_S (k : Str) : ∀ st : Stt, ((sK st).any fun q => decide (q = (.inr k : Key))) = hasS st k
  | [] => rfl
  | x :: r => by
    have ih := any_S k r
    show (decide ((.inr x.1 : Key) = .inr k) || (sK r).any _) = _
    rw [ih]
    unfold hasS
    rw [getS]
    by_cases e : x.1 = k
    · subst e; simp
    · rw [if_neg e, decide_eq_false (inr_ne e)]; rfl
theorem over_S (k : Str) (m : List Nd) : ∀ st : Stt, dPutX (sK st) (sX st) (.inr k) (eM m) = sX (ovS st k m) ∧ sK (ovS st k m) = sK st
  | [] => ⟨rfl, rfl⟩
  | x :: r => by
    obtain ⟨a, b⟩ := over_S k m r
    have e1 : ovS (x :: r) k m = (if x.1 = k then (x.1, m) else x) :: ovS r k m := rfl
    have e2 : dPutX (sK (x :: r)) (sX (x :: r)) (.inr k) (eM m) = (if (.inr x.1 : Key) = .inr k then eM m else eM x.2) :: dPutX (sK r) (sX r) (.inr k) (eM m) := rfl
    rw [e1, e2, a]
    by_cases e : x.1 = k
    · subst e
      rw [if_pos rfl, if_pos rfl]
      exact ⟨rfl, congrArg (_ :: ·) b⟩
    · rw [if_neg e, if_neg (inr_ne e)]
      exact ⟨rfl, congrArg (_ :: ·) b⟩
@[simp] theorem dPut_S (st : Stt) (k : Str) (m : List Nd) : dPut (sK st) (sX st) (.inr k) (eM m) = (sK (putS st k m), sX (putS st k m)) := by
  unfold dPut putS
  rw [any_S]
  by_cases e : hasS st k = true
  · rw [if_pos e, if_pos e]
    obtain ⟨a, b⟩ := over_S k m st
    rw [a, b]
  · rw [if_neg e, if_neg e]
    unfold sK sX
    rw [List.map_append, List.map_append]; rfl
@[simp] theorem dDrop_S (k : Str) : ∀ st : Stt, dDropX (.inr k) (sK st) (sX st) = (sK (delS st k), sX (delS st k))
  | [] => rfl
  | x :: r => by
    have ih := dDrop_S k r
    have e2 : dDropX (.inr k) (sK (x :: r)) (sX (x :: r)) = (if (.inr x.1 : Key) = .inr k then dDropX (.inr k) (sK r) (sX r) else (.inr x.1 :: (dDropX (.inr k) (sK r) (sX r)).1, eM x.2 :: (dDropX (.inr k) (sK r) (sX r)).2)) := rfl
    rw [e2, ih]
    unfold delS
    rw [List.filter_cons]
    by_cases e : x.1 = k
    · subst e; simp
    · rw [if_neg (inr_ne e), decide_eq_false e]; rfl
@[simp] theorem idx_S (st : Stt) (k : Str) : dIdxA (dSt st) (.str k) = (getS st k).map eM := by
  show dGet (sK st) (sX st) (.inr k) = _
  rw [dGet_S]
@[simp] theorem in_S (st : Stt) (k : Str) : cInA (.str k) (dSt st) = some (.bl (hasS st k)) := by
  rw [cInA_dct (q := .inr k) rfl, dGet_S]; unfold hasS; simp
@[simp] theorem notin_S (st : Stt) (k : Str) : cNotInA (.str k) (dSt st) = some (.bl (!hasS st k)) := by
  rw [cNotInA_dct (q := .inr k) rfl, dGet_S]; unfold hasS; simp
@[simp] theorem len_S (st : Stt) : (sX st).length = st.length := by unfold sX; rw [List.length_map]
theorem keys_S (st : Stt) : (sK st).map keyK = st.map fun x => D.str x.1 := by unfold sK; rw [List.map_map]; rfl
@[simp] theorem keyD_s (k : Str) : keyD (.str k) = some (.inr k) := rfl
structure SOk (d w L : Nat) (st : Stt) : Prop where
  nd : (st.map Prod.fst).Nodup
  q : ∀ x ∈ st, x.1 ∈ KS ∧ Fit d w x.2
  l : st.length ≤ L
theorem Fit.mono {d w d' w' : Nat} {m : List Nd} (h : Fit d w m) (a : d ≤ d') (b : w ≤ w') : Fit d' w' m := ⟨h.wf, h.ok, Nat.le_trans h.h a, Nat.le_trans h.w b⟩
theorem SOk.mono {d w L d' w' L' : Nat} {st : Stt} (h : SOk d w L st) (a : d ≤ d') (b : w ≤ w') (c : L ≤ L') : SOk d' w' L' st :=
  ⟨h.nd, fun x hx => ⟨(h.q x hx).1, (h.q x hx).2.mono a b⟩, Nat.le_trans h.l c⟩
theorem SOk.nil (d w L : Nat) : SOk d w L [] := ⟨List.nodup_nil, fun x h => (by cases h), Nat.zero_le _⟩
theorem getS_mem : ∀ {st : Stt} {k : Str} {m : List Nd}, getS st k = some m → (k, m) ∈ st
  | [], _, _, h => by rw [getS] at h; cases h
  | x :: r, k, m, h => by
    rw [getS] at h
    by_cases e : x.1 = k
    · rw [if_pos e] at h; cases h; subst e; exact List.mem_cons_self
    · rw [if_neg e] at h; exact List.mem_cons_of_mem _ (getS_mem h)
theorem getS_none : ∀ {st : Stt} {k : Str}, getS st k = none → k ∉ st.map Prod.fst
  | [], _, _ => by simp
  | x :: r, k, h => by
    rw [getS] at h
    by_cases e : x.1 = k
    · rw [if_pos e] at h; cases h
    · rw [if_neg e] at h
      rw [List.map_cons, List.mem_cons, not_or]
      exact ⟨fun z => e z.symm, getS_none h⟩
theorem getS_no : ∀ {st : Stt} {k : Str}, k ∉ st.map Prod.fst → getS st k = none
  | [], _, _ => by rw [getS]
  | x :: r, k, h => by
    rw [List.map_cons, List.mem_cons, not_or] at h
    rw [getS, if_neg (fun z => h.1 z.symm), getS_no h.2]
theorem getS_app {pre r : Stt} {x : Str × List Nd} (h : ((pre ++ x :: r).map Prod.fst).Nodup) : getS (pre ++ x :: r) x.1 = some x.2 := by
  induction pre with
  | nil => rw [List.nil_append, getS, if_pos rfl]
  | cons y p ih =>
    rw [List.cons_append, List.map_cons, List.nodup_cons] at h
    rw [List.cons_append, getS, if_neg (fun z => h.1 (by rw [z, List.map_append, List.map_cons]; exact List.mem_append_right _ List.mem_cons_self)), ih h.2]
theorem SOk.get {d w L : Nat} {st : Stt} (h : SOk d w L st) {k : Str} {m : List Nd} (e : getS st k = some m) : Fit d w m := (h.q _ (getS_mem e)).2
theorem SOk.put {d w L : Nat} {st : Stt} (h : SOk d w L st) {k : Str} {m : List Nd} (hk : k ∈ KS) (hm : Fit d w m) : SOk d w (L + 1) (putS st k m) := by
  unfold putS
  by_cases e : hasS st k = true
  · rw [if_pos e]
    refine ⟨?_, fun x hx => ?_, by unfold ovS; rw [List.length_map]; have := h.l; omega⟩
    · have : (ovS st k m).map Prod.fst = st.map Prod.fst := by
        unfold ovS
        rw [List.map_map]
        refine List.map_congr_left fun x _ => ?_
        show (if x.1 = k then (x.1, m) else x).1 = x.1
        split <;> rfl
      rw [this]; exact h.nd
    · obtain ⟨y, hy, rfl⟩ := List.mem_map.mp hx
      split
      · exact ⟨(h.q y hy).1, hm⟩
      · exact h.q y hy
  · rw [if_neg e]
    have no : getS st k = none := by
      cases q : getS st k with
      | none => rfl
      | some m => exact absurd (by unfold hasS; rw [q]; rfl) e
    refine ⟨?_, fun x hx => ?_, by rw [List.length_append, List.length_singleton]; have := h.l; omega⟩
    · rw [List.map_append, List.nodup_append]
      refine ⟨h.nd, by simp, fun a ha b hb => ?_⟩
      rw [List.map_cons, List.map_nil, List.mem_singleton] at hb
      subst hb
      exact fun z => getS_none no (z ▸ ha)
    · rcases List.mem_append.mp hx with z | z
      · exact h.q x z
      · rw [List.mem_singleton] at z; subst z; exact ⟨hk, hm⟩
theorem SOk.del {d w L : Nat} {st : Stt} (h : SOk d w L st) (k : Str) : SOk d w L (delS st k) :=
  ⟨(List.Sublist.map _ List.filter_sublist).nodup h.nd, fun x hx => h.q x (List.mem_filter.mp hx).1, Nat.le_trans (List.length_filter_le _ _) h.l⟩
/-! the law's copy of the last state -/
theorem copy_loop (R : Rec) {S ls : List D} {st : Stt} (h3 : S[3]? = some (.lst ls)) (hl : ls.getLast? = some (dSt st)) (hn : (st.map Prod.fst).Nodup) (l100 : st.length ≤ 100) (v1 v4 v5 : Sl) : ∀ (rest pre : Stt), st = pre ++ rest →
    forD (.nm 3) [3] (L_1012_1 R) (rest.map fun x => D.str x.1) [.val (.ptr 3), v1, .own (dSt pre), .non, v4, v5] S = .next [.val (.ptr 3), v1, .own (dSt st), .non, v4, v5] S
  | [], pre, e => by rw [e, List.append_nil]; rfl
  | x :: r, pre, e => by
    have g : getS st x.1 = some x.2 := by rw [e] at hn ⊢; exact getS_app hn
    have np : hasS pre x.1 = false := by
      have : x.1 ∉ pre.map Prod.fst := fun z => by
        rw [e, List.map_append, List.nodup_append] at hn
        exact hn.2.2 _ z _ (by rw [List.map_cons]; exact List.mem_cons_self) rfl
      unfold hasS; rw [getS_no this]; rfl
    have pp : putS pre x.1 x.2 = pre ++ [x] := by unfold putS; rw [np]; rfl
    have ih := copy_loop R h3 hl hn l100 v1 v4 v5 r (pre ++ [x]) (by rw [e, List.append_assoc]; rfl)
    have la : atI ls (-1) = some (dSt st) := by rw [atI_neg1]; exact hl
    have sz : pre.length < sizeLine := Nat.lt_of_le_of_lt (show pre.length ≤ 100 by rw [e, List.length_append] at l100; omega) (by decide)
    have ix := idx_S st x.1
    rw [g] at ix
    rw [List.map_cons, forD, x_bnm]
    simp [e_L_1012_1, x_sPutO, h3, la, ix, sz, pp]
    exact ih
/-! the keys, sorted, and their text -/
theorem KS_ok : ∀ x ∈ KS, okR (.str x) = true ∧ shW (.str x) ≤ 100 := by
  have h : KS.all (fun x => okR (.str x) && decide (shW (.str x) ≤ 100)) = true := by decide +kernel
  intro x hx
  have := List.all_eq_true.mp h x hx
  simpa using this
theorem strs_R : ∀ l : List Str, (∀ x ∈ l, x ∈ KS) → okRs (l.map D.str) = true ∧ deps (l.map D.str) = 0 ∧ shWs (l.map D.str) ≤ 110 * l.length
  | [], _ => ⟨by rw [List.map_nil, okRs], by rw [List.map_nil, deps], by rw [List.map_nil, shWs]; omega⟩
  | x :: r, h => by
    obtain ⟨a, b, c⟩ := strs_R r fun y hy => h y (List.mem_cons_of_mem _ hy)
    obtain ⟨k1, k2⟩ := KS_ok x (h x List.mem_cons_self)
    refine ⟨by rw [List.map_cons, okRs, k1, a]; rfl, by rw [List.map_cons, deps, b, dep]; rfl, ?_⟩
    rw [List.map_cons, shWs, List.length_cons]; omega
theorem asStrs_map : ∀ l : List Str, asStrs (l.map D.str) = some l
  | [] => rfl
  | x :: r => by rw [List.map_cons, asStrs, asStrs_map r]; rfl
theorem sorted_S {d w L : Nat} {st : Stt} (h : SOk d w L st) (hL : L ≤ 60) : ∃ (l : List Str) (t : Str), dSorted (.lst ((sK st).map keyK)) = some (.lst (l.map D.str)) ∧ dReprA (.lst (l.map D.str)) = some (.str t) := by
  have hl := h.l
  have e : (sK st).map keyK = (st.map Prod.fst).map D.str := by rw [keys_S, List.map_map]; rfl
  have ks : ∀ x ∈ srtS (st.map Prod.fst), x ∈ KS := fun x hx => by
    have : x ∈ st.map Prod.fst := List.mem_mergeSort.mp hx
    obtain ⟨y, hy, rfl⟩ := List.mem_map.mp this
    exact (h.q y hy).1
  have ll : (srtS (st.map Prod.fst)).length = st.length := by unfold srtS; rw [List.length_mergeSort, List.length_map]
  obtain ⟨a, b, c⟩ := strs_R _ ks
  obtain ⟨t, ht⟩ := dRepr_ok (d := .lst ((srtS (st.map Prod.fst)).map D.str)) rfl (by rw [okR]; exact a) (by rw [dep, b]; omega) (by rw [shW]; show _ ≤ 16777216; omega)
  refine ⟨srtS (st.map Prod.fst), t, ?_, by rw [dReprA_lst]; exact ht⟩
  rw [e]
  unfold dSorted
  simp only [asStrs_map]
  show (if (st.map Prod.fst).length < 64 then _ else none) = _
  rw [if_pos (by rw [List.length_map]; omega)]

end
section
open PySem L2 DL
/-! ### deeds -/
inductive Deed where
  | put (k : Str) (m : List Nd) | drop (k : Str) | undo | chg (k : Str) (p : List (Int × Ky)) (m : List Nd)
def eD : Deed → D
  | .put k m => .tup [.str "put", .str k, eM m]
  | .drop k => .tup [.str "drop", .str k]
  | .undo => .tup [.str "undo"]
  | .chg k p m => .tup [.str "change", .str k, pD p, eM m]
def DOk : Deed → Prop
  | .put k m => k ∈ KS ∧ Fit 2 158200 m
  | .drop k => k ∈ KS
  | .undo => True
  | .chg k p m => k ∈ KS ∧ POk p ∧ Fit 1 7800 m
@[simp] theorem x_eGet2 {a b c : De} {Γ : List Sl} {S : List D} : eGet2 a b c Γ S = (a Γ S).bind fun x S1 => if isDct (deref S1 x) = true then (b Γ S1).bind fun y S2 => (c Γ S2).bind fun z S3 => ofO (dGet2 (deref S3 x) y z) S3 else .stuck := Eq.trans rfl rfl
theorem get2_S (st : Stt) (k : Str) : dGet2 (dSt st) (.str k) (.lst []) = some (eM ((getS st k).getD [])) := by
  unfold dGet2
  rw [keyD_s]
  simp only
  rw [dGet_S]
  cases getS st k with
  | none => show some (D.lst []) = _; unfold eM; rw [Option.getD_none, eL_nil]
  | some m => rfl
theorem getD_fit {d w L : Nat} {st : Stt} (h : SOk d w L st) (k : Str) : Fit d w ((getS st k).getD []) := by
  cases q : getS st k with
  | none => exact ⟨wfL0, lOk0, by rw [Option.getD_none, lH]; exact Nat.zero_le _, by rw [Option.getD_none, lW]; exact Nat.zero_le _⟩
  | some m => exact h.get q
theorem run_deed {r : List D} {d w L : Nat} {st : Stt} (h : SOk d w L st) (hd : d ≤ 30) (hw : w ≤ 399999) (S : List D) (hS : BxR r S) : ∃ (q : Deed) (S' : List D), run 59 1011 [.ptr 0, dSt st] S = .ok (eD q) S' ∧ BxR r S' ∧ DOk q := by
  rw [run_1011]
  obtain ⟨a, S1, h1, hS1, a0, a4⟩ := run_draw 57 4 (by decide) S hS
  replace h1 : run 58 1003 [.ptr 0, .int 4] S = .ok (.int a) S1 := h1
  obtain ⟨b, S2, h2, hS2, b0, b9⟩ := run_draw 57 9 (by decide) S1 hS1
  replace h2 : run 58 1003 [.ptr 0, .int 9] S1 = .ok (.int b) S2 := h2
  have a4' : a < (KS.map D.str).length := by exact a4
  obtain ⟨x, hx, ek⟩ := pick (xs := KS.map D.str) a0 a4'
  obtain ⟨k, hk, rfl⟩ := List.mem_map.mp hx
  replace ek : atI [D.str "a", .str "b", .str "files", .str "zz"] a = some (.str k) := ek
  have mk := fun dd (hdd : dd + 2 ≤ 58) S hS => mkM (r := r) (q := ["m", "n"]) (by simp) (by decide) dd 58 hdd false S hS
  generalize hR : run 58 = R at h1 h2 mk ⊢
  by_cases c1 : b < 3
  · obtain ⟨m, S3, h3, hS3, gm⟩ := mk 2 (by decide) S2 hS2
    have fm := gm.fit
    rw [wM2] at fm
    replace h3 : R 1005 [.ptr 0, .int 2, .bl false, .lst [.str "m", .str "n"]] S2 = .ok (eM m) S3 := h3
    refine ⟨.put k m, S3, ?_, hS3, hk, fm⟩
    simp [B_1011, h1, ek, h2, c1, h3, eD]
  · by_cases c2 : b = 3
    · subst c2
      refine ⟨.drop k, S2, ?_, hS2, hk⟩
      simp [B_1011, h1, ek, h2, eD]
    · have c2b : (b == 3) = false := by simpa using c2
      by_cases c3 : b < 6
      · refine ⟨.undo, S2, ?_, hS2, trivial⟩
        simp [B_1011, h1, ek, h2, c1, c2, c2b, c3, eD]
      · have g := get2_S st k
        have f := getD_fit h k
        obtain ⟨p, S3, h3, hS3, hp⟩ := run_path 56 S2 hS2 f.wf (Nat.le_trans f.w hw) (Nat.le_trans f.h hd) (by decide)
        replace h3 : R 1009 [.ptr 0, eM ((getS st k).getD [])] S2 = .ok (pD p) S3 := by rw [← hR]; exact h3
        obtain ⟨m, S4, h4, hS4, gm⟩ := mk 1 (by decide) S3 hS3
        have fm := gm.fit
        rw [wM1] at fm
        replace h4 : R 1005 [.ptr 0, .int 1, .bl false, .lst [.str "m", .str "n"]] S3 = .ok (eM m) S4 := h4
        refine ⟨.chg k p m, S4, ?_, hS4, hk, hp, fm⟩
        simp [B_1011, h1, ek, h2, c1, c2, c2b, c3, eD, isDct, g, h3, h4]
/-! ### what a deed does to the states, and what is told -/
def newT (T0 : List Stt) (st : Stt) : Deed → List Stt
  | .put k m => (T0 ++ [st]) ++ [putS st k (plA [] m)]
  | .drop k => if hasS st k = true then (T0 ++ [st]) ++ [delS st k] else T0 ++ [st]
  | .undo => if T0 = [] then T0 ++ [st] else T0
  | .chg k p m => match getS st k with
    | none => T0 ++ [st]
    | some m0 => if (atP m0 p).isSome = true then (T0 ++ [st]) ++ [putS st k (plA [] (putP m0 p m))] else T0 ++ [st]
def dueD (T0 : List Stt) (st : Stt) : Deed → D
  | .put k _ => .bl (hasS st k)
  | .drop k => match getS st k with
    | none => .tup [.str "no key", .str k]
    | some m => eM m
  | .undo => .bl (!T0.isEmpty)
  | .chg k p _ => match getS st k with
    | none => .tup [.str "no key", .str k]
    | some m0 => if (atP m0 p).isSome = true then .bl true else .tup [.str "no place", pD p]
theorem copy_all (R : Rec) {S ls : List D} {st : Stt} (h3 : S[3]? = some (.lst ls)) (hl : ls.getLast? = some (dSt st)) (hn : (st.map Prod.fst).Nodup) (l100 : st.length ≤ 100) (v1 v4 v5 : Sl) :
    sForKL 0 (.nm 3) [3] (L_1012_1 R) [.val (.ptr 3), v1, .own (.dct [] []), .non, v4, v5] S = .next [.val (.ptr 3), v1, .own (dSt st), .non, v4, v5] S := by
  have lp := copy_loop R h3 hl hn l100 v1 v4 v5 st [] rfl
  rw [x_sForKL, x_sFor, x_iKL (i := 0) (q := 3) rfl h3 hl, after_ok, keys_S]
  have e : dSt [] = .dct [] [] := rfl
  rw [e] at lp
  rw [lp]; rfl
theorem cEq_lAt {d w : Nat} {o : Option (List Nd)} (h : ∀ r, o = some r → Fit d w r) : cEq (lAt o) (.lst []) = some (.bl o.isNone) := by
  unfold lAt
  cases o with
  | none => exact eq_nil0
  | some r => exact eq_nil1 (h r rfl).ok
theorem q_uu : (("undo" : Str) == "undo") = true := by decide +kernel
theorem q_pu : (("put" : Str) == "undo") = false := by decide +kernel
theorem q_du : (("drop" : Str) == "undo") = false := by decide +kernel
theorem q_cu : (("change" : Str) == "undo") = false := by decide +kernel
theorem q_pp : (("put" : Str) == "put") = true := by decide +kernel
theorem q_dp : (("drop" : Str) == "put") = false := by decide +kernel
theorem q_cp : (("change" : Str) == "put") = false := by decide +kernel
theorem q_dd : (("drop" : Str) == "drop") = true := by decide +kernel
theorem q_cd : (("change" : Str) == "drop") = false := by decide +kernel
theorem ati1 {α : Type} (x y : α) (xs : List α) : atI (x :: y :: xs) 1 = some y := by
  have := atI_get? (xs := x :: y :: xs) (k := 1)
  simpa using this
theorem ati2 {α : Type} (x y z : α) (xs : List α) : atI (x :: y :: z :: xs) 2 = some z := by
  have := atI_get? (xs := x :: y :: z :: xs) (k := 2)
  simpa using this
theorem ati3 {α : Type} (x y z u : α) (xs : List α) : atI (x :: y :: z :: u :: xs) 3 = some u := by
  have := atI_get? (xs := x :: y :: z :: u :: xs) (k := 3)
  simpa using this
theorem run_done {a b c : D} {R0 : List D} {d w L : Nat} {T0 : List Stt} {st : Stt} (h : SOk d w L st) (hd : d ≤ 26) (hw : w ≤ 399999) (hL : L ≤ 60) (hT : T0.length ≤ 60) {q : Deed} (hq : DOk q) :
    run 59 1012 [.ptr 3, eD q] (a :: b :: c :: .lst ((T0 ++ [st]).map dSt) :: R0) = .ok (dueD T0 st q) (a :: b :: c :: .lst ((newT T0 st q).map dSt) :: R0) := by
  rw [run_1012]
  have hl := h.l
  have gl : ((T0 ++ [st]).map dSt).getLast? = some (dSt st) := by rw [List.map_append]; exact List.getLast?_concat
  have ll : ((T0 ++ [st]).map dSt).length = T0.length + 1 := by rw [List.length_map, List.length_append]; rfl
  have sl : ((T0 ++ [st]).map dSt).length < sizeLine := Nat.lt_of_le_of_lt (show _ ≤ 100 by rw [ll]; omega) (by decide)
  have dl : ((T0 ++ [st]).map dSt).dropLast = T0.map dSt := by rw [List.map_append]; exact List.dropLast_concat
  have nl : (T0 ++ [st]).map dSt ≠ [] := fun z => by rw [z] at ll; cases ll
  have ap : ∀ x : Stt, ((T0 ++ [st]) ++ [x]).map dSt = (T0 ++ [st]).map dSt ++ [dSt x] := fun x => by rw [List.map_append]; rfl
  have ss : st.length < sizeLine := Nat.lt_of_le_of_lt (show _ ≤ 100 by omega) (by decide)
  have rA : ∀ (m : List Nd) S, lH m ≤ 27 → lW m ≤ 5000000 → run 58 1010 [eM m] S = .ok (eM (plA [] m)) S := fun m S a b => run_lpl 58 m S (by omega) b
  have rB : ∀ (m : List Nd) p S, Fit d w m → POk p → run 58 1007 [eM m, .tup (ePa p)] S = .ok (lAt (atP m p)) S := fun m p S hm hp => run_lat 56 (w := w) (by omega) hm (fun x hx => (hp.q x hx).2.2) S
  have rC : ∀ (m inn r : List Nd) p S, Fit d w m → POk p → atP m p = some r → run 58 1008 [eM m, .tup (ePa p), eM inn] S = .ok (eM (putP m p inn)) S := fun m inn r p S hm hp e => by
    have := run_lput inn p (55 - p.length) (w := w) (by omega) hm hp S e
    have hp := hp.l
    rw [show p.length + (55 - p.length + 3) = 58 by omega] at this
    exact this
  generalize hR : run 58 = R at rA rB rC ⊢
  have cp := fun v1 => copy_all R (S := a :: b :: c :: .lst ((T0 ++ [st]).map dSt) :: R0) (ls := (T0 ++ [st]).map dSt) rfl gl h.nd (by omega) v1 .non .non
  have key : ∀ {T' : List Stt} {u : D}, newT T0 st q = T' → dueD T0 st q = u → B_1012 R [.ptr 3, eD q] (a :: b :: c :: .lst ((T0 ++ [st]).map dSt) :: R0) = .ok u (a :: b :: c :: .lst (T'.map dSt) :: R0) → B_1012 R [.ptr 3, eD q] (a :: b :: c :: .lst ((T0 ++ [st]).map dSt) :: R0) = .ok (dueD T0 st q) (a :: b :: c :: .lst ((newT T0 st q).map dSt) :: R0) := fun e1 e2 h => by rw [e1, e2]; exact h
  cases q with
  | undo =>
    by_cases z : T0 = []
    · refine key (T' := T0 ++ [st]) (u := .bl false) (if_pos z) (by rw [z]; rfl) ?_
      generalize hls : (T0 ++ [st]).map dSt = ls at *
      have l1 : ls.length = 1 := by rw [ll, z]; rfl
      simp [B_1012, eD, cp, at1_0, q_uu, l1]
    · refine key (T' := T0) (u := .bl true) (if_neg z) (by cases T0 with | nil => exact absurd rfl z | cons x y => rfl) ?_
      have l1 : ¬ T0.length = 0 := fun y => z (List.eq_nil_of_length_eq_zero y)
      have l2 : ((T0.length : Int) + 1 == 1) = false := by simp; omega
      generalize hls : (T0 ++ [st]).map dSt = ls at *
      simp [B_1012, eD, cp, at1_0, q_uu, ll, l1, l2, nl, dl]
  | put k m =>
    have hw2 := hq.2.w
    have ra := rA m (a :: b :: c :: .lst ((T0 ++ [st]).map dSt) :: R0) (by have := hq.2.h; omega) (by omega)
    refine key (T' := (T0 ++ [st]) ++ [putS st k (plA [] m)]) (u := .bl (hasS st k)) rfl rfl ?_
    rw [ap]
    generalize hls : (T0 ++ [st]).map dSt = ls at *
    simp [B_1012, eD, cp, at0, ati1, ati2, q_pu, q_pp, x_sPutO, ra, ss, sl, hasS]
  | drop k =>
    cases g : getS st k with
    | none =>
      have hs : hasS st k = false := by unfold hasS; rw [g]; rfl
      refine key (T' := T0 ++ [st]) (u := .tup [.str "no key", .str k]) (if_neg (by rw [hs]; decide)) (by unfold dueD; simp only [g]) ?_
      generalize hls : (T0 ++ [st]).map dSt = ls at *
      simp [B_1012, eD, cp, at0, ati1, ati2, q_du, q_dp, g]
    | some m =>
      have hs : hasS st k = true := by unfold hasS; rw [g]; rfl
      refine key (T' := (T0 ++ [st]) ++ [delS st k]) (u := eM m) (if_pos hs) (by unfold dueD; simp only [g]) ?_
      rw [ap]
      generalize hls : (T0 ++ [st]).map dSt = ls at *
      simp [B_1012, eD, cp, at0, ati1, ati2, q_du, q_dp, q_dd, g, sl]
  | chg k p m =>
    cases g : getS st k with
    | none =>
      have hs : hasS st k = false := by unfold hasS; rw [g]; rfl
      refine key (T' := T0 ++ [st]) (u := .tup [.str "no key", .str k]) (by unfold newT; simp only [g]) (by unfold dueD; simp only [g]) ?_
      generalize hls : (T0 ++ [st]).map dSt = ls at *
      simp [B_1012, eD, cp, at0, ati1, ati2, q_cu, q_cp, g]
    | some m0 =>
      have hs : hasS st k = true := by unfold hasS; rw [g]; rfl
      have f0 := h.get g
      have ix := idx_S st k
      rw [g] at ix
      have rb := rB m0 p (a :: b :: c :: .lst ((T0 ++ [st]).map dSt) :: R0) f0 hq.2.1
      have ce := cEq_lAt (o := atP m0 p) (fun r e => atP_fit p m0 r f0 e)
      have rl : ∀ S, deref S (lAt (atP m0 p)) = lAt (atP m0 p) := fun S => rfl
      cases y : atP m0 p with
      | none =>
        rw [y] at rb ce rl
        refine key (T' := T0 ++ [st]) (u := .tup [.str "no place", pD p]) (by unfold newT; simp only [g, y]; rfl) (by unfold dueD; simp only [g, y]; rfl) ?_
        generalize hls : (T0 ++ [st]).map dSt = ls at *
        simp at ix
        simp [B_1012, eD, pD, cp, at0, ati1, ati2, ati3, q_cu, q_cp, q_cd, g, rb, ce, rl]
      | some r0 =>
        have rc := rC m0 m r0 p (a :: b :: c :: .lst ((T0 ++ [st]).map dSt) :: R0) f0 hq.2.1 y
        obtain ⟨fp, fw⟩ := putP_fit p f0 hq.2.2 y
        have ra := rA (putP m0 p m) (a :: b :: c :: .lst ((T0 ++ [st]).map dSt) :: R0) (by have := fp.h; omega) (by have := fp.w; omega)
        rw [y] at rb ce rl
        refine key (T' := (T0 ++ [st]) ++ [putS st k (plA [] (putP m0 p m))]) (u := .bl true) (by unfold newT; simp only [g, y]; rfl) (by unfold dueD; simp only [g, y]; rfl) ?_
        rw [ap]
        generalize hls : (T0 ++ [st]).map dSt = ls at *
        simp at ix
        simp [B_1012, eD, pD, cp, at0, ati1, ati2, ati3, q_cu, q_cp, q_cd, g, rb, ce, rl, rc, ra, x_sPutO, ss, sl]

end
section
open PySem L2 DL
/-! ### the book -/
def bkI : D := .ins 22 ["past"] [.ptr 2]
def PR (R0 : List D) (d : D) (st : Stt) : Prop := d = dSt st ∨ ∃ i, d = .ptr (i + 4) ∧ R0[i]? = some (dSt st)
def Gd (R0 : List D) (Z : List (D × Stt)) : Prop := ∀ x ∈ Z, PR R0 x.1 x.2
theorem PR.ext {R0 : List D} {d : D} {st : Stt} (x : D) (h : PR R0 d st) : PR (R0 ++ [x]) d st := by
  rcases h with h | ⟨i, h, k⟩
  · exact .inl h
  · exact .inr ⟨i, h, by rw [List.getElem?_append_left (List.getElem?_eq_some_iff.mp k).1]; exact k⟩
theorem PR.new (R0 : List D) (st : Stt) : PR (R0 ++ [dSt st]) (.ptr (R0.length + 4)) st := .inr ⟨R0.length, rfl, List.getElem?_concat_length⟩
theorem Gd.ext {R0 : List D} {Z : List (D × Stt)} (x : D) (h : Gd R0 Z) : Gd (R0 ++ [x]) Z := fun y hy => (h y hy).ext x
theorem Gd.snoc {R0 : List D} {Z : List (D × Stt)} (h : Gd R0 Z) {d : D} {st : Stt} (k : PR R0 d st) : Gd R0 (Z ++ [(d, st)]) := fun y hy => by
  rcases List.mem_append.mp hy with z | z
  · exact h y z
  · rw [List.mem_singleton] at z; subst z; exact k
theorem PR.read {R0 : List D} {d : D} {st : Stt} (h : PR R0 d st) (a b c e : D) : deref (a :: b :: c :: e :: R0) d = dSt st := by
  rcases h with rfl | ⟨i, rfl, k⟩
  · rfl
  · rw [deref_ptr]
    have : (a :: b :: c :: e :: R0)[i + 4]? = some (dSt st) := k
    rw [this]
theorem set_concat (R0 : List D) (x y : D) : (R0 ++ [x]).set R0.length y = R0 ++ [y] := by
  rw [List.set_append_right _ _ (Nat.le_refl _), Nat.sub_self]; rfl
theorem no_m1 : (["past"] : List Str).contains "messages" = false := by decide +kernel
theorem no_m2 : (["past"] : List Str).contains "put" = false := by decide +kernel
theorem no_m3 : (["past"] : List Str).contains "drop" = false := by decide +kernel
theorem no_m4 : (["past"] : List Str).contains "change" = false := by decide +kernel
theorem no_m5 : (["past"] : List Str).contains "undo" = false := by decide +kernel
theorem look_p (x : D) : (List.zip (["past"] : List Str) [x]).lookup ("past" : Str) = some x := by
  show List.lookup ("past" : Str) [(("past" : Str), x)] = some x
  simp [List.lookup]
section
variable {a e d0 : D} {P P0 R0 : List D} {st : Stt}
theorem att_p (i : Nat) {Γ : List Sl} (h : Γ[i]? = some (.val (.ptr 1))) (a c e : D) (R0 : List D) : eAtt "past" ga_past (eV i) Γ (a :: bkI :: c :: e :: R0) = .ok (.ptr 2) (a :: bkI :: c :: e :: R0) := by
  rw [x_eAtt, x_eV, h]
  have gp : ga_past 22 = true := rfl
  have lk := look_p (.ptr 2)
  simp [bkI, gp, lk]
theorem meth_p (i : Nat) {Γ : List Sl} {m : Str} {F : List D → List D → Res D} {α : Da} (h : Γ[i]? = some (.val (.ptr 1))) (hm : (["past"] : List Str).contains m = false) (a c e : D) (R0 : List D) : eMeth 22 m F (eV i) α Γ (a :: bkI :: c :: e :: R0) = (α Γ (a :: bkI :: c :: e :: R0)).bind fun ds S2 => F (.ptr 1 :: ds) S2 := by
  rw [x_eMeth, x_eV, h]
  show (if 22 = 22 ∧ (["past"] : List Str).contains m = false then _ else _) = _
  rw [if_pos ⟨rfl, hm⟩]
theorem run_msgs (n : Nat) (hP : P = P0 ++ [d0]) (hd : PR R0 d0 st) : run (n + 1) 153 [.ptr 1] (a :: bkI :: .lst P :: e :: R0) = .ok (.ptr (R0.length + 4)) (a :: bkI :: .lst P :: e :: (R0 ++ [dSt st])) := by
  rw [run_153]
  have la : atI P (-1) = some d0 := by rw [hP, atI_neg1]; exact List.getLast?_concat
  have rd := hd.read a bkI (.lst P) e
  have ap := att_p 0 (Γ := [.val (.ptr 1)]) rfl a (.lst P) e R0
  simp [-x_eAtt, -x_eMeth, B_153, ap, la, rd]
theorem run_bput (n : Nat) (k : Str) (m : List Nd) (hP : P = P0 ++ [d0]) (hd : PR R0 d0 st) (sp : P.length < sizeLine) (ss : st.length < sizeLine) (ho : lOk m = true) (hh : 2 * lH m + 2 ≤ n + 1) (h40 : lH m ≤ 40) (hw : lW m ≤ 5000000) :
    run (n + 2) 154 [.ptr 1, .str k, eM m] (a :: bkI :: .lst P :: e :: R0) = .ok (.bl (hasS st k)) (a :: bkI :: .lst (P ++ [.ptr (R0.length + 4)]) :: e :: (R0 ++ [dSt (putS st k (plA [] m))])) := by
  rw [run_154]
  have r1 := run_msgs (a := a) (e := e) n hP hd
  have r2 := run_pl (n + 1) m (a :: bkI :: .lst P :: e :: (R0 ++ [dSt st])) ho hh h40 hw
  have mp := meth_p 0 (Γ := [.val (.ptr 1), .val (.str k), .val (eM m), .non, .non]) (F := run (n + 1) 153) (α := aNil) rfl no_m1 a (.lst P) e R0
  have ap := fun v4 => att_p 0 (Γ := [.val (.ptr 1), .val (.str k), .val (eM m), .val (.ptr (R0.length + 4)), v4]) rfl a (.lst P) e (R0 ++ [dSt (putS st k (plA [] m))])
  have sc := set_concat R0
  simp [-x_eAtt, -x_eMeth, B_154, mp, r1, r2, ss, sc, ap, sp, hasS]
def keyX (k : Str) : Exn := ⟨8, ["key"], [.str k]⟩
theorem KS_sh : ∀ x ∈ KS, shOk (.str x) = true := by
  have h : KS.all (fun x => shOk (.str x)) = true := by decide +kernel
  exact fun x hx => List.all_eq_true.mp h x hx
theorem run_bdrop0 (n : Nat) {k : Str} (hk : k ∈ KS) (hP : P = P0 ++ [d0]) (hd : PR R0 d0 st) (g : getS st k = none) :
    run (n + 2) 155 [.ptr 1, .str k] (a :: bkI :: .lst P :: e :: R0) = .exc (keyX k) (a :: bkI :: .lst P :: e :: (R0 ++ [dSt st])) := by
  rw [run_155]
  have r1 := run_msgs (a := a) (e := e) n hP hd
  have mp := meth_p 0 (Γ := [.val (.ptr 1), .val (.str k), .non, .non]) (F := run (n + 1) 153) (α := aNil) rfl no_m1 a (.lst P) e R0
  have sh := KS_sh k hk
  simp [-x_eAtt, -x_eMeth, B_155, mp, r1, g, sh, keyX]
theorem run_bdrop (n : Nat) {k : Str} {m : List Nd} (hP : P = P0 ++ [d0]) (hd : PR R0 d0 st) (sp : P.length < sizeLine) (g : getS st k = some m) :
    run (n + 2) 155 [.ptr 1, .str k] (a :: bkI :: .lst P :: e :: R0) = .ok (eM m) (a :: bkI :: .lst (P ++ [.ptr (R0.length + 4)]) :: e :: (R0 ++ [dSt (delS st k)])) := by
  rw [run_155]
  have r1 := run_msgs (a := a) (e := e) n hP hd
  have mp := meth_p 0 (Γ := [.val (.ptr 1), .val (.str k), .non, .non]) (F := run (n + 1) 153) (α := aNil) rfl no_m1 a (.lst P) e R0
  have ap := fun v3 => att_p 0 (Γ := [.val (.ptr 1), .val (.str k), .val (.ptr (R0.length + 4)), v3]) rfl a (.lst P) e (R0 ++ [dSt (delS st k)])
  have sc := set_concat R0
  have ix := idx_S st k
  rw [g] at ix
  simp at ix
  simp [-x_eAtt, -x_eMeth, B_155, mp, r1, g, sc, ap, sp, ix]
theorem run_bund0 (n : Nat) (hP : P.length = 1) : run (n + 1) 157 [.ptr 1] (a :: bkI :: .lst P :: e :: R0) = .ok (.bl false) (a :: bkI :: .lst P :: e :: R0) := by
  rw [run_157]
  have ap := att_p 0 (Γ := [.val (.ptr 1)]) rfl a (.lst P) e R0
  simp [-x_eAtt, -x_eMeth, B_157, ap, hP]
theorem run_bund (n : Nat) (hP : P.length ≠ 1) (h0 : P ≠ []) : run (n + 1) 157 [.ptr 1] (a :: bkI :: .lst P :: e :: R0) = .ok (.bl true) (a :: bkI :: .lst P.dropLast :: e :: R0) := by
  rw [run_157]
  have ap := att_p 0 (Γ := [.val (.ptr 1)]) rfl a (.lst P) e R0
  have l2 : ((P.length : Int) == 1) = false := by simp; omega
  simp [-x_eAtt, -x_eMeth, B_157, ap, l2, hP, h0]
theorem run_bchg0 (n : Nat) {k : Str} {p : D} (m : List Nd) (hk : k ∈ KS) (hP : P = P0 ++ [d0]) (hd : PR R0 d0 st) (g : getS st k = none) :
    run (n + 1) 156 [.ptr 1, .str k, p, eM m] (a :: bkI :: .lst P :: e :: R0) = .exc (keyX k) (a :: bkI :: .lst P :: e :: R0) := by
  rw [run_156]
  have la : atI P (-1) = some d0 := by rw [hP, atI_neg1]; exact List.getLast?_concat
  have rd := hd.read a bkI (.lst P) e
  have ap := att_p 0 (Γ := [.val (.ptr 1), .val (.str k), .val p, .val (eM m)]) rfl a (.lst P) e R0
  have sh := KS_sh k hk
  simp [-x_eAtt, -x_eMeth, B_156, ap, la, rd, g, sh, keyX]
theorem run_bchgP (n : Nat) {k : Str} {p : List (Int × Ky)} {d w : Nat} (m : List Nd) {m0 : List Nd} (hP : P = P0 ++ [d0]) (hd : PR R0 d0 st) (g : getS st k = some m0) (f0 : Fit d w m0) (hp : POk p) (y : atP m0 p = none) :
    run (n + 5) 156 [.ptr 1, .str k, .tup (ePa p), eM m] (a :: bkI :: .lst P :: e :: R0) = .exc (pathX p) (a :: bkI :: .lst P :: e :: R0) := by
  rw [run_156]
  have la : atI P (-1) = some d0 := by rw [hP, atI_neg1]; exact List.getLast?_concat
  have rd := hd.read a bkI (.lst P) e
  have ap := att_p 0 (Γ := [.val (.ptr 1), .val (.str k), .val (.tup (ePa p)), .val (eM m)]) rfl a (.lst P) e R0
  have r1 := run_rep_no p n m f0 hp (a :: bkI :: .lst P :: e :: R0) y
  have mp := fun F α => meth_p 0 (Γ := [.val (.ptr 1), .val (.str k), .val (.tup (ePa p)), .val (eM m)]) (F := F) (α := α) rfl no_m2 a (.lst P) e R0
  have ix := idx_S st k
  rw [g] at ix
  simp at ix
  simp [-x_eAtt, -x_eMeth, B_156, ap, la, rd, g, mp, ix, r1]
theorem run_bchg {k : Str} {p : List (Int × Ky)} {d w : Nat} {m m0 r0 : List Nd} (hP : P = P0 ++ [d0]) (hd : PR R0 d0 st) (sp : P.length < sizeLine) (ss : st.length < sizeLine) (g : getS st k = some m0) (f0 : Fit d w m0) (hw : w ≤ 399999) (hdd : d ≤ 25) (hm : Fit 1 7800 m) (hp : POk p) (y : atP m0 p = some r0) :
    run 57 156 [.ptr 1, .str k, .tup (ePa p), eM m] (a :: bkI :: .lst P :: e :: R0) = .ok (.bl true) (a :: bkI :: .lst (P ++ [.ptr (R0.length + 4)]) :: e :: (R0 ++ [dSt (putS st k (plA [] (putP m0 p m)))])) := by
  rw [run_156]
  have la : atI P (-1) = some d0 := by rw [hP, atI_neg1]; exact List.getLast?_concat
  have rd := hd.read a bkI (.lst P) e
  have ap := att_p 0 (Γ := [.val (.ptr 1), .val (.str k), .val (.tup (ePa p)), .val (eM m)]) rfl a (.lst P) e R0
  have r1 := run_rep m p (51 - p.length) (w := w) (by omega) f0 hp (a :: bkI :: .lst P :: e :: R0) y
  have pl := hp.l
  rw [show p.length + (51 - p.length + 5) = 56 by omega] at r1
  have mp := fun F α => meth_p 0 (Γ := [.val (.ptr 1), .val (.str k), .val (.tup (ePa p)), .val (eM m)]) (F := F) (α := α) rfl no_m2 a (.lst P) e R0
  obtain ⟨fp, fw⟩ := putP_fit p f0 hm y
  have r2 : run 56 154 [.ptr 1, .str k, eM (putP m0 p m)] (a :: bkI :: .lst P :: e :: R0) = _ := run_bput (a := a) (e := e) 54 k (putP m0 p m) hP hd sp ss fp.ok (by have := fp.h; omega) (by have := fp.h; omega) (by have := fp.w; omega)
  have ix := idx_S st k
  rw [g] at ix
  simp at ix
  have hs : hasS st k = true := by unfold hasS; rw [g]; rfl
  rw [hs] at r2
  simp [-x_eAtt, -x_eMeth, B_156, ap, la, rd, g, mp, ix, r1, r2]
end

end
section
open PySem L2 DL
/-! ### what the book tells -/
theorem run_told {a e d0 : D} {R0 : List D} {Z0 : List (D × Stt)} {st : Stt} {d w L : Nat} (h : SOk d w L st) (hd : d ≤ 25) (hw : w ≤ 399999) (hL : L ≤ 60) (hZ : Z0.length ≤ 60) (gd : Gd R0 (Z0 ++ [(d0, st)])) {q : Deed} (hq : DOk q) :
    ∃ Z' R', run 59 1014 [.ptr 1, eD q] (a :: bkI :: .lst ((Z0 ++ [(d0, st)]).map Prod.fst) :: e :: R0) = .ok (dueD (Z0.map Prod.snd) st q) (a :: bkI :: .lst (Z'.map Prod.fst) :: e :: R') ∧ Z'.map Prod.snd = newT (Z0.map Prod.snd) st q ∧ Gd R' Z' := by
  rw [run_1014]
  have hp : PR R0 d0 st := gd (d0, st) (List.mem_append_right _ (List.mem_singleton.mpr rfl))
  have eP : (Z0 ++ [(d0, st)]).map Prod.fst = Z0.map Prod.fst ++ [d0] := by rw [List.map_append]; rfl
  have lP : ((Z0 ++ [(d0, st)]).map Prod.fst).length = Z0.length + 1 := by rw [List.length_map, List.length_append]; rfl
  have eT : (Z0 ++ [(d0, st)]).map Prod.snd = Z0.map Prod.snd ++ [st] := by rw [List.map_append]; rfl
  have sp : ((Z0 ++ [(d0, st)]).map Prod.fst).length < sizeLine := Nat.lt_of_le_of_lt (show _ ≤ 100 by rw [lP]; omega) (by decide)
  have hl := h.l
  have ss : st.length < sizeLine := Nat.lt_of_le_of_lt (show _ ≤ 100 by omega) (by decide)
  -- the states with a new one
  have sn : ∀ (s2 : Stt), ((Z0 ++ [(d0, st)]) ++ [(D.ptr (R0.length + 4), s2)]).map Prod.fst = (Z0 ++ [(d0, st)]).map Prod.fst ++ [.ptr (R0.length + 4)] := fun s2 => by rw [List.map_append]; rfl
  have sm : ∀ (s2 : Stt), ((Z0 ++ [(d0, st)]) ++ [(D.ptr (R0.length + 4), s2)]).map Prod.snd = (Z0.map Prod.snd ++ [st]) ++ [s2] := fun s2 => by rw [List.map_append, eT]; rfl
  have sg : ∀ (s2 : Stt), Gd (R0 ++ [dSt s2]) ((Z0 ++ [(d0, st)]) ++ [(D.ptr (R0.length + 4), s2)]) := fun s2 => (gd.ext _).snoc (PR.new R0 s2)
  have fin : ∀ (Z' : List (D × Stt)) (R' : List D) (u : D), dueD (Z0.map Prod.snd) st q = u → newT (Z0.map Prod.snd) st q = Z'.map Prod.snd → Gd R' Z' → B_1014 (run 58) [.ptr 1, eD q] (a :: bkI :: .lst ((Z0 ++ [(d0, st)]).map Prod.fst) :: e :: R0) = .ok u (a :: bkI :: .lst (Z'.map Prod.fst) :: e :: R') →
    ∃ Z' R', B_1014 (run 58) [.ptr 1, eD q] (a :: bkI :: .lst ((Z0 ++ [(d0, st)]).map Prod.fst) :: e :: R0) = .ok (dueD (Z0.map Prod.snd) st q) (a :: bkI :: .lst (Z'.map Prod.fst) :: e :: R') ∧ Z'.map Prod.snd = newT (Z0.map Prod.snd) st q ∧ Gd R' Z' := fun Z' R' u e1 e2 e3 e4 => ⟨Z', R', by rw [e1]; exact e4, e2.symm, e3⟩
  generalize hP : (Z0 ++ [(d0, st)]).map Prod.fst = P at *
  have mpp := fun (x : D) F α => meth_p 0 (Γ := [.val (.ptr 1), .val x]) (F := F) (α := α) rfl no_m2 a (.lst P) e R0
  have mpd := fun (x : D) F α => meth_p 0 (Γ := [.val (.ptr 1), .val x]) (F := F) (α := α) rfl no_m3 a (.lst P) e R0
  have mpc := fun (x : D) F α => meth_p 0 (Γ := [.val (.ptr 1), .val x]) (F := F) (α := α) rfl no_m4 a (.lst P) e R0
  have mpu := fun (x : D) F α => meth_p 0 (Γ := [.val (.ptr 1), .val x]) (F := F) (α := α) rfl no_m5 a (.lst P) e R0
  cases q with
  | undo =>
    by_cases z : Z0 = []
    · have r1 := run_bund0 (a := a) (e := e) (P := P) (R0 := R0) 56 (by rw [lP, z]; rfl)
      refine fin (Z0 ++ [(d0, st)]) R0 (.bl false) (by rw [z]; rfl) (by rw [eT]; exact if_pos (by rw [z]; rfl)) gd ?_
      have c1 : run 58 1013 [.ptr 1, .tup [.str "undo"]] (a :: bkI :: .lst P :: e :: R0) = .ok (.bl false) (a :: bkI :: .lst P :: e :: R0) := by
        rw [run_1013]
        simp [-x_eMeth, B_1013, at1_0, q_uu, mpu, r1]
      rw [hP]
      simp [B_1014, eD, c1]
    · have nz : Z0.length ≠ 0 := fun y => z (List.eq_nil_of_length_eq_zero y)
      have r1 := run_bund (a := a) (e := e) (P := P) (R0 := R0) 56 (by rw [lP]; omega) (by intro y; rw [y] at lP; cases lP)
      have dl : P.dropLast = Z0.map Prod.fst := by rw [eP]; exact List.dropLast_concat
      rw [dl] at r1
      refine fin Z0 R0 (.bl true) (by cases Z0 with | nil => exact absurd rfl z | cons x y => rfl) (if_neg (fun y => z (List.map_eq_nil_iff.mp y))) (fun y hy => gd y (List.mem_append_left _ hy)) ?_
      have c1 : run 58 1013 [.ptr 1, .tup [.str "undo"]] (a :: bkI :: .lst P :: e :: R0) = .ok (.bl true) (a :: bkI :: .lst (Z0.map Prod.fst) :: e :: R0) := by
        rw [run_1013]
        simp [-x_eMeth, B_1013, at1_0, q_uu, mpu, r1]
      simp [B_1014, eD, c1]
  | put k m =>
    have f := hq.2
    have r1 := run_bput (a := a) (e := e) 55 k m eP hp sp ss f.ok (by have := f.h; omega) (by have := f.h; omega) (by have := f.w; omega)
    refine fin ((Z0 ++ [(d0, st)]) ++ [(D.ptr (R0.length + 4), putS st k (plA [] m))]) _ (.bl (hasS st k)) rfl (by rw [sm]; rfl) (sg _) ?_
    rw [sn]
    have c1 : run 58 1013 [.ptr 1, .tup [.str "put", .str k, eM m]] (a :: bkI :: .lst P :: e :: R0) = .ok (.bl (hasS st k)) (a :: bkI :: .lst (P ++ [.ptr (R0.length + 4)]) :: e :: (R0 ++ [dSt (putS st k (plA [] m))])) := by
      rw [run_1013]
      simp [-x_eMeth, B_1013, at0, ati1, ati2, q_pu, q_pp, mpp, r1]
    simp [B_1014, eD, c1]
  | drop k =>
    cases g : getS st k with
    | none =>
      have hs : ¬ hasS st k = true := by unfold hasS; rw [g]; decide
      have r1 := run_bdrop0 (a := a) (e := e) 55 hq eP hp g
      refine fin (Z0 ++ [(d0, st)]) (R0 ++ [dSt st]) (.tup [.str "no key", .str k]) (by unfold dueD; simp only [g]) (by rw [eT]; exact if_neg hs) (gd.ext _) ?_
      have c1 : run 58 1013 [.ptr 1, .tup [.str "drop", .str k]] (a :: bkI :: .lst P :: e :: R0) = .exc (keyX k) (a :: bkI :: .lst P :: e :: (R0 ++ [dSt st])) := by
        rw [run_1013]
        simp [-x_eMeth, B_1013, at0, ati1, q_du, q_dp, q_dd, mpd, r1]
      rw [hP]
      simp [B_1014, eD, c1, keyX, fx_NoSuchKey, unx, unxD, noX, isX, gx_key]
    | some m =>
      have hs : hasS st k = true := by unfold hasS; rw [g]; rfl
      have r1 := run_bdrop (a := a) (e := e) 55 eP hp sp g
      refine fin ((Z0 ++ [(d0, st)]) ++ [(D.ptr (R0.length + 4), delS st k)]) _ (eM m) (by unfold dueD; simp only [g]) (by rw [sm]; exact if_pos hs) (sg _) ?_
      rw [sn]
      have c1 : run 58 1013 [.ptr 1, .tup [.str "drop", .str k]] (a :: bkI :: .lst P :: e :: R0) = .ok (eM m) (a :: bkI :: .lst (P ++ [.ptr (R0.length + 4)]) :: e :: (R0 ++ [dSt (delS st k)])) := by
        rw [run_1013]
        simp [-x_eMeth, B_1013, at0, ati1, q_du, q_dp, q_dd, mpd, r1]
      simp [B_1014, eD, c1]
  | chg k p m =>
    have call : ∀ {r : Res D}, run 57 156 [.ptr 1, .str k, .tup (ePa p), eM m] (a :: bkI :: .lst P :: e :: R0) = r → run 58 1013 [.ptr 1, .tup [.str "change", .str k, .tup (ePa p), eM m]] (a :: bkI :: .lst P :: e :: R0) = r := fun {r} hr => by
      rw [run_1013]
      cases r with
      | ok x y => simp [-x_eMeth, B_1013, at0, ati1, ati2, ati3, q_cu, q_cp, q_cd, mpc, hr]
      | exc x y => simp [-x_eMeth, B_1013, at0, ati1, ati2, ati3, q_cu, q_cp, q_cd, mpc, hr]
      | stuck => simp [-x_eMeth, B_1013, at0, ati1, ati2, ati3, q_cu, q_cp, q_cd, mpc, hr]
    cases g : getS st k with
    | none =>
      have c1 := call (run_bchg0 (a := a) (e := e) (p := .tup (ePa p)) 56 m hq.1 eP hp g)
      refine fin (Z0 ++ [(d0, st)]) R0 (.tup [.str "no key", .str k]) (by unfold dueD; simp only [g]) (by rw [eT]; unfold newT; simp only [g]) gd ?_
      rw [hP]
      simp [B_1014, eD, pD, c1, keyX, fx_NoSuchKey, unx, unxD, noX, isX, gx_key]
    | some m0 =>
      have f0 := h.get g
      cases y : atP m0 p with
      | none =>
        have c1 := call (run_bchgP (a := a) (e := e) 52 m eP hp g f0 hq.2.1 y)
        refine fin (Z0 ++ [(d0, st)]) R0 (.tup [.str "no place", pD p]) (by unfold dueD; simp only [g, y]; rfl) (by rw [eT]; unfold newT; simp only [g, y]; rfl) gd ?_
        rw [hP]
        simp [B_1014, eD, pD, c1, pathX, fx_NoSuchKey, fx_NoSuchPlace, unx, unxD, noX, isX, gx_path]
      | some r0 =>
        have c1 := call (run_bchg (a := a) (e := e) eP hp sp ss g f0 hw hd hq.2.2 hq.2.1 y)
        refine fin ((Z0 ++ [(d0, st)]) ++ [(D.ptr (R0.length + 4), putS st k (plA [] (putP m0 p m)))]) _ (.bl true) (by unfold dueD; simp only [g, y]; rfl) (by rw [sm]; unfold newT; simp only [g, y]; rfl) (sg _) ?_
        rw [sn]
        simp [B_1014, eD, pD, c1]
/-! ### what is told has a text -/
theorem msg_reprB {d w : Nat} (hd : d ≤ 40) (hw : w ≤ 5000000) {m : List Nd} (h : Fit d w m) : ∃ t, dReprA (eM m) = some (.str t) := by
  unfold eM
  rw [dReprA_lst]
  have d1 := lDep m
  have s1 := lW_sh m
  have fh := h.h
  have fw := h.w
  exact dRepr_ok rfl (by rw [okR]; exact lOk_R m h.ok) (by rw [dep]; omega) (by rw [shW]; show _ ≤ 16777216; omega)
theorem nk_ok : ∀ x ∈ KS, okR (.tup [.str "no key", .str x]) = true ∧ dep (.tup [.str "no key", .str x]) ≤ 180 ∧ shW (.tup [.str "no key", .str x]) ≤ 1000 := by
  have h : KS.all (fun x => okR (.tup [.str "no key", .str x]) && decide (dep (.tup [.str "no key", .str x]) ≤ 180) && decide (shW (.tup [.str "no key", .str x]) ≤ 1000)) = true := by decide +kernel
  intro x hx
  have := List.all_eq_true.mp h x hx
  simpa [and_assoc] using this
theorem np_ok : okR (.str "no place") = true ∧ shW (.str "no place") ≤ 1000 := by
  have h : (okR (.str "no place") && decide (shW (.str "no place") ≤ 1000)) = true := by decide +kernel
  simpa using h
theorem due_repr {d w L : Nat} {T0 : List Stt} {st : Stt} (h : SOk d w L st) (hd : d ≤ 40) (hw : w ≤ 5000000) {q : Deed} (hq : DOk q) : (∃ t, dReprA (dueD T0 st q) = some (.str t)) ∧ ∀ S, deref S (dueD T0 st q) = dueD T0 st q := by
  have nk : ∀ k ∈ KS, (∃ t, dReprA (.tup [.str "no key", .str k]) = some (.str t)) := fun k hk => by
    obtain ⟨a, b, c⟩ := nk_ok k hk
    rw [dReprA_tup]
    exact dRepr_ok rfl a b (by show _ ≤ 16777216; omega)
  have key : ∀ u, dueD T0 st q = u → ((∃ t, dReprA u = some (.str t)) ∧ ∀ S, deref S u = u) → (∃ t, dReprA (dueD T0 st q) = some (.str t)) ∧ ∀ S, deref S (dueD T0 st q) = dueD T0 st q := fun u e h => by rw [e]; exact h
  cases q with
  | undo => exact ⟨⟨_, rfl⟩, fun _ => rfl⟩
  | put k m => exact ⟨⟨_, rfl⟩, fun _ => rfl⟩
  | drop k =>
    cases g : getS st k with
    | none => exact key (.tup [.str "no key", .str k]) (by unfold dueD; simp only [g]) ⟨nk k hq, fun _ => rfl⟩
    | some m => exact key (eM m) (by unfold dueD; simp only [g]) ⟨msg_reprB hd hw (h.get g), fun _ => rfl⟩
  | chg k p m =>
    cases g : getS st k with
    | none => exact key (.tup [.str "no key", .str k]) (by unfold dueD; simp only [g]) ⟨nk k hq.1, fun _ => rfl⟩
    | some m0 =>
      by_cases y : (atP m0 p).isSome = true
      · exact key (.bl true) (by unfold dueD; simp only [g, y]; rfl) ⟨⟨_, rfl⟩, fun _ => rfl⟩
      · obtain ⟨a, b, c, dd⟩ := path_okR p hq.2.1.q
        have l := hq.2.1.l
        have np := np_ok
        have np2 := np.2
        rw [shW] at np2
        refine key (.tup [.str "no place", pD p]) (by unfold dueD; simp only [g]; exact if_neg y) ⟨?_, fun _ => rfl⟩
        rw [dReprA_tup]
        refine dRepr_ok rfl ?_ ?_ ?_
        · rw [okR, okRs, okRs, okRs, np.1, pD, okR, a]; rfl
        · rw [dep, deps, deps, deps, pD, dep, dep]; omega
        · rw [shW, shWs, shWs, shWs, pD, shW, shW]; show _ ≤ 16777216; omega
/-! ### the states behind a deed -/
theorem newT_ok {d w L : Nat} {T0 : List Stt} {st : Stt} (h0 : ∀ x ∈ T0, SOk d w L x) (h : SOk d w L st) (hd : 1 ≤ d) (hw : 158200 ≤ w + 7800) {q : Deed} (hq : DOk q) :
    (∀ x ∈ newT T0 st q, SOk (d + 1) (w + 7800) (L + 1) x) ∧ (newT T0 st q).length ≤ T0.length + 2 ∧ newT T0 st q ≠ [] := by
  have m0 : ∀ x ∈ T0, SOk (d + 1) (w + 7800) (L + 1) x := fun x hx => (h0 x hx).mono (by omega) (by omega) (by omega)
  have ms : SOk (d + 1) (w + 7800) (L + 1) st := h.mono (by omega) (by omega) (by omega)
  have a1 : (∀ x ∈ T0 ++ [st], SOk (d + 1) (w + 7800) (L + 1) x) ∧ (T0 ++ [st]).length ≤ T0.length + 2 ∧ T0 ++ [st] ≠ [] :=
    ⟨fun x hx => by
      rcases List.mem_append.mp hx with z | z
      · exact m0 x z
      · rw [List.mem_singleton] at z; subst z; exact ms, by rw [List.length_append, List.length_singleton]; omega, by simp⟩
  have a2 : ∀ s2, SOk (d + 1) (w + 7800) (L + 1) s2 → (∀ x ∈ (T0 ++ [st]) ++ [s2], SOk (d + 1) (w + 7800) (L + 1) x) ∧ ((T0 ++ [st]) ++ [s2]).length ≤ T0.length + 2 ∧ (T0 ++ [st]) ++ [s2] ≠ [] := fun s2 h2 =>
    ⟨fun x hx => by
      rcases List.mem_append.mp hx with z | z
      · exact a1.1 x z
      · rw [List.mem_singleton] at z; subst z; exact h2, by rw [List.length_append, List.length_append, List.length_singleton, List.length_singleton]; omega, by simp⟩
  have hs : SOk (d + 1) (w + 7800) L st := h.mono (by omega) (by omega) (Nat.le_refl _)
  have key : ∀ X, newT T0 st q = X → ((∀ x ∈ X, SOk (d + 1) (w + 7800) (L + 1) x) ∧ X.length ≤ T0.length + 2 ∧ X ≠ []) → (∀ x ∈ newT T0 st q, SOk (d + 1) (w + 7800) (L + 1) x) ∧ (newT T0 st q).length ≤ T0.length + 2 ∧ newT T0 st q ≠ [] := fun X e h => by rw [e]; exact h
  cases q with
  | undo =>
    by_cases z : T0 = []
    · exact key (T0 ++ [st]) (if_pos z) a1
    · exact key T0 (if_neg z) ⟨m0, Nat.le_add_right _ _, z⟩
  | put k m => exact a2 _ (hs.put hq.1 (plain_fit (hq.2.mono (by omega) hw)))
  | drop k =>
    by_cases z : hasS st k = true
    · exact key ((T0 ++ [st]) ++ [delS st k]) (if_pos z) (a2 _ (ms.del k))
    · exact key (T0 ++ [st]) (if_neg z) a1
  | chg k p m =>
    cases g : getS st k with
    | none => exact key (T0 ++ [st]) (by unfold newT; simp only [g]) a1
    | some m0 =>
      by_cases y : (atP m0 p).isSome = true
      · obtain ⟨r0, y2⟩ := Option.isSome_iff_exists.mp y
        exact key ((T0 ++ [st]) ++ [putS st k (plA [] (putP m0 p m))]) (by unfold newT; simp only [g]; exact if_pos y) (a2 _ (hs.put hq.1 (plain_fit (putP_fit p (h.get g) hq.2.2 y2).1)))
      · exact key (T0 ++ [st]) (by unfold newT; simp only [g]; exact if_neg y) a1

end
section
open PySem L2 DL
/-! ### the law -/
theorem isd_S (st : Stt) : dIsi "dict" (dSt st) = some (.bl true) := by unfold dIsi tyN; rfl
theorem chk_loop (R : Rec) {S ls : List D} {st : Stt} {u : Nat} (h3 : S[3]? = some (.lst ls)) (hl : ls.getLast? = some (dSt st)) (hu : S[u]? = some (dSt st)) (hn : (st.map Prod.fst).Nodup) (hs : ∀ x ∈ st, R 1004 [eM x.2, eM x.2] S = .ok (.bl true) S) (v0 v1 v2 v4 v5 v6 : Sl) : ∀ (rest pre : Stt), st = pre ++ rest →
    forD (.nm 8) [8] (L_1015_1 R) (rest.map fun x => D.str x.1) [v0, v1, v2, .val (.ptr 3), v4, v5, v6, .val (.ptr u), .non] S = .next [v0, v1, v2, .val (.ptr 3), v4, v5, v6, .val (.ptr u), .non] S
  | [], pre, e => rfl
  | x :: r, pre, e => by
    have g : getS st x.1 = some x.2 := by rw [e] at hn ⊢; exact getS_app hn
    have ih := chk_loop R h3 hl hu hn hs v0 v1 v2 v4 v5 v6 r (pre ++ [x]) (by rw [e, List.append_assoc]; rfl)
    have la : atI ls (-1) = some (dSt st) := by rw [atI_neg1]; exact hl
    have hx := hs x (by rw [e]; exact List.mem_append_right _ List.mem_cons_self)
    have ix := idx_S st x.1
    rw [g] at ix
    rw [List.map_cons, forD, x_bnm]
    simp [e_L_1015_1, h3, hu, la, ix, hx]
    exact ih
theorem chk_all (R : Rec) {S ls : List D} {st : Stt} {u : Nat} (h3 : S[3]? = some (.lst ls)) (hl : ls.getLast? = some (dSt st)) (hu : S[u]? = some (dSt st)) (hn : (st.map Prod.fst).Nodup) (hs : ∀ x ∈ st, R 1004 [eM x.2, eM x.2] S = .ok (.bl true) S) (v0 v1 v2 v4 v5 v6 : Sl) :
    sForKL 3 (.nm 8) [8] (L_1015_1 R) [v0, v1, v2, .val (.ptr 3), v4, v5, v6, .val (.ptr u), .non] S = .next [v0, v1, v2, .val (.ptr 3), v4, v5, v6, .val (.ptr u), .non] S := by
  have lp := chk_loop R h3 hl hu hn hs v0 v1 v2 v4 v5 v6 st [] rfl
  rw [x_sForKL, x_sFor, x_iKL (i := 3) (q := 3) rfl h3 hl, after_ok, keys_S, lp]; rfl
def lawG (ns : List Int) : List Sl := [.val (.scr ns), .val (.ptr 0), .val (.ptr 1), .val (.ptr 3), .non, .non, .non, .non, .non]
/-- ahead of turn b -/
def J (b : Nat) (S : List D) : Prop := ∃ ds k Z R0, S = box ds k :: bkI :: .lst (Z.map Prod.fst) :: .lst ((Z.map Prod.snd).map dSt) :: R0 ∧ Gd R0 Z ∧ Z ≠ [] ∧ Z.length ≤ b + 1 ∧ ∀ x ∈ Z.map Prod.snd, SOk (b + 1) (158200 + 7800 * b) b x
theorem after_pop (q : Nat) (S : List D) (ks : List Key) (xs : List D) (Γ : List Sl) (h : S[q]? = some (.dct ks xs)) : ∃ y, (match S[q]?, keyD (.str "a") with
    | some (.dct ks xs), some kk => if (dGet ks xs kk).isSome = true then Out.next Γ (S.set q (.dct (dDropX kk ks xs).1 (dDropX kk ks xs).2)) else .next Γ S
    | _, _ => .stuck) = .next Γ (S.set q y) := by
  rw [h, keyD_s]
  simp only
  split
  · exact ⟨_, rfl⟩
  · refine ⟨.dct ks xs, ?_⟩
    obtain ⟨hq, e⟩ := List.getElem?_eq_some_iff.mp h
    rw [← e, List.set_getElem_self]
theorem spoil {u : Nat} {ns : List Int} {t v5 v6 : Sl} {S R0 : List D} {a b c e : D} {st : Stt} (hu : u = R0.length + 4) (hS : S = a :: b :: c :: e :: (R0 ++ [dSt st])) (ss : st.length < sizeLine) :
    ∃ y, sSeq (sPutP (eV 7) (eC (.str "spoilt")) (eLst aNil)) (sPop2P (eV 7) (eC (.str "a")) (eC .non)) [.val (.scr ns), .val (.ptr 0), .val (.ptr 1), .val (.ptr 3), t, v5, v6, .val (.ptr u), .non] S = .next [.val (.scr ns), .val (.ptr 0), .val (.ptr 1), .val (.ptr 3), t, v5, v6, .val (.ptr u), .non] (a :: b :: c :: e :: (R0 ++ [y])) := by
  subst hu; subst hS
  have sc := set_concat R0
  generalize hp : dPut (sK st) (sX st) (.inr "spoilt") (.lst []) = pq
  have g1 : (a :: b :: c :: e :: (R0 ++ [D.dct pq.1 pq.2]))[R0.length + 4]? = some (.dct pq.1 pq.2) := by simp
  obtain ⟨y, hy⟩ := after_pop (R0.length + 4) _ pq.1 pq.2 [.val (.scr ns), .val (.ptr 0), .val (.ptr 1), .val (.ptr 3), t, v5, v6, .val (.ptr (R0.length + 4)), .non] g1
  refine ⟨y, ?_⟩
  have s2 : (a :: b :: c :: e :: (R0 ++ [D.dct pq.1 pq.2])).set (R0.length + 4) y = a :: b :: c :: e :: (R0 ++ [y]) := by simp [sc]
  rw [s2] at hy
  have p1 : sPutP (eV 7) (eC (.str "spoilt")) (eLst aNil) [.val (.scr ns), .val (.ptr 0), .val (.ptr 1), .val (.ptr 3), t, v5, v6, .val (.ptr (R0.length + 4)), .non] (a :: b :: c :: e :: (R0 ++ [dSt st])) = .next [.val (.scr ns), .val (.ptr 0), .val (.ptr 1), .val (.ptr 3), t, v5, v6, .val (.ptr (R0.length + 4)), .non] (a :: b :: c :: e :: (R0 ++ [D.dct pq.1 pq.2])) := by
    simp [ss, hp, sc]
  have d1 : deref (a :: b :: c :: e :: (R0 ++ [D.dct pq.1 pq.2])) (.ptr (R0.length + 4)) = .dct pq.1 pq.2 := by rw [deref_ptr, g1]
  rw [x_sSeq, p1]
  simp only
  rw [x_sPop2P]
  show after (Res.ok (D.ptr (R0.length + 4)) _) _ _ = _
  rw [after_ok, d1, isDct_dct, if_pos rfl]
  exact hy
theorem law_turn (R : Rec) (hR : R = run 59) (ns : List Int) (t : D) (b : Nat) (hb : b < 25) (S : List D) (hS : J b S) :
    WT (L_1015_2 R ((lawG ns).set 4 (.val t)) S) (fun Γ S2 => clr [4, 5, 6, 7, 8] Γ = lawG ns ∧ J (b + 1) S2) (fun _ _ => False) (fun _ _ => False) := by
  obtain ⟨ds, k, Z, R0, rfl, gd, nz, zl, zo⟩ := hS
  obtain ⟨Z0, ⟨d0, st⟩, rfl⟩ : ∃ Z0 x, Z = Z0 ++ [x] := ⟨Z.dropLast, Z.getLast nz, (List.dropLast_concat_getLast nz).symm⟩
  have eT : (Z0 ++ [(d0, st)]).map Prod.snd = Z0.map Prod.snd ++ [st] := by rw [List.map_append]; rfl
  rw [eT] at zo ⊢
  have z0l : Z0.length ≤ b := by rw [List.length_append, List.length_singleton] at zl; omega
  have so : SOk (b + 1) (158200 + 7800 * b) b st := zo st (List.mem_append_right _ (List.mem_singleton.mpr rfl))
  have gl : ((Z0.map Prod.snd ++ [st]).map dSt).getLast? = some (dSt st) := by rw [List.map_append]; exact List.getLast?_concat
  have la : atI ((Z0.map Prod.snd ++ [st]).map dSt) (-1) = some (dSt st) := by rw [atI_neg1]; exact gl
  -- the deed
  obtain ⟨q, S1, h1, ⟨ds1, k1, rfl⟩, hq⟩ := run_deed so (by omega) (by omega) (box ds k :: bkI :: .lst ((Z0 ++ [(d0, st)]).map Prod.fst) :: .lst ((Z0.map Prod.snd ++ [st]).map dSt) :: R0) ⟨ds, k, rfl⟩
  have h2 := run_done (a := box ds1 k1) (b := bkI) (c := .lst ((Z0 ++ [(d0, st)]).map Prod.fst)) (R0 := R0) (T0 := Z0.map Prod.snd) so (by omega) (by omega) (by omega) (by rw [List.length_map]; omega) hq
  obtain ⟨Z', R', h3, e3, gd3⟩ := run_told (a := box ds1 k1) (e := .lst ((newT (Z0.map Prod.snd) st q).map dSt)) so (by omega) (by omega) (by omega) (by omega) gd hq
  obtain ⟨⟨tx, htx⟩, rd⟩ := due_repr (T0 := Z0.map Prod.snd) so (by omega) (by omega) hq
  obtain ⟨n1, n2, n3⟩ := newT_ok (T0 := Z0.map Prod.snd) (fun x hx => zo x (List.mem_append_left _ hx)) so (by omega) (by omega) hq
  rw [List.length_map] at n2
  rw [← e3] at n1 n2 n3 h2 h3
  rw [List.length_map] at n2
  have nz' : Z' ≠ [] := fun y => n3 (by rw [y]; rfl)
  obtain ⟨Z1, ⟨d1, st1⟩, rfl⟩ : ∃ Z0 x, Z' = Z0 ++ [x] := ⟨Z'.dropLast, Z'.getLast nz', (List.dropLast_concat_getLast nz').symm⟩
  have eT1 : (Z1 ++ [(d1, st1)]).map Prod.snd = Z1.map Prod.snd ++ [st1] := by rw [List.map_append]; rfl
  rw [eT1] at n1 h2 h3
  have so1 : SOk (b + 1 + 1) (158200 + 7800 * b + 7800) (b + 1) st1 := n1 st1 (List.mem_append_right _ (List.mem_singleton.mpr rfl))
  have gl1 : ((Z1.map Prod.snd ++ [st1]).map dSt).getLast? = some (dSt st1) := by rw [List.map_append]; exact List.getLast?_concat
  have la1 : atI ((Z1.map Prod.snd ++ [st1]).map dSt) (-1) = some (dSt st1) := by rw [atI_neg1]; exact gl1
  have hp1 : PR R' d1 st1 := gd3 (d1, st1) (List.mem_append_right _ (List.mem_singleton.mpr rfl))
  have eP1 : (Z1 ++ [(d1, st1)]).map Prod.fst = Z1.map Prod.fst ++ [d1] := by rw [List.map_append]; rfl
  have h4 := run_msgs (a := box ds1 k1) (e := .lst ((Z1.map Prod.snd ++ [st1]).map dSt)) 58 eP1 hp1
  obtain ⟨l, ty, hso, hty⟩ := sorted_S so1 (by omega)
  have s1 := so1.l
  have ss1 : st1.length < sizeLine := Nat.lt_of_le_of_lt (show _ ≤ 100 by omega) (by decide)
  have sm1 := fun S => same_D 58 S (rd S) htx
  have sm2 := fun S => same_D (d := .lst (l.map D.str)) 58 S rfl hty
  have sm3 : ∀ S, ∀ x ∈ st1, run 59 1004 [eM x.2, eM x.2] S = .ok (.bl true) S := fun S x hx => by
    obtain ⟨tz, htz⟩ := msg_reprB (by omega) (by omega) (so1.q x hx).2
    exact same_D 58 S rfl htz
  rw [← hR] at h1 h2 h3 h4 sm1 sm2 sm3
  obtain ⟨y, hsp⟩ := spoil (u := R'.length + 4) (ns := ns) (t := .val t) (v5 := .val (eD q)) (v6 := .val (dueD (Z0.map Prod.snd) st q)) (S := box ds1 k1 :: bkI :: .lst ((Z1 ++ [(d1, st1)]).map Prod.fst) :: .lst ((Z1.map Prod.snd ++ [st1]).map dSt) :: (R' ++ [dSt st1])) rfl rfl ss1
  have ck := chk_all R (S := box ds1 k1 :: bkI :: .lst ((Z1 ++ [(d1, st1)]).map Prod.fst) :: .lst ((Z1.map Prod.snd ++ [st1]).map dSt) :: (R' ++ [dSt st1])) (u := R'.length + 4) rfl gl1 (by simp) so1.nd (sm3 _) (.val (.scr ns)) (.val (.ptr 0)) (.val (.ptr 1)) (.val t) (.val (eD q)) (.val (dueD (Z0.map Prod.snd) st q))
  have mp := fun Γ (h : Γ[2]? = some (.val (.ptr 1))) F α => meth_p 2 (Γ := Γ) (F := F) (α := α) h no_m1 (box ds1 k1) (.lst ((Z1 ++ [(d1, st1)]).map Prod.fst)) (.lst ((Z1.map Prod.snd ++ [st1]).map dSt)) R'
  have mp := mp [.val (.scr ns), .val (.ptr 0), .val (.ptr 1), .val (.ptr 3), .val t, .val (eD q), .val (dueD (Z0.map Prod.snd) st q), .non, .non] rfl (R 153) aNil
  have isd := isd_S st1
  have fin : J (b + 1) (box ds1 k1 :: bkI :: .lst ((Z1 ++ [(d1, st1)]).map Prod.fst) :: .lst ((Z1.map Prod.snd ++ [st1]).map dSt) :: (R' ++ [y])) :=
    ⟨ds1, k1, Z1 ++ [(d1, st1)], R' ++ [y], by rw [eT1], gd3.ext y, nz', by omega, by rw [eT1]; exact fun x hx => (n1 x hx).mono (by omega) (by omega) (by omega)⟩
  generalize dueD (Z0.map Prod.snd) st q = due at *
  generalize (Z1 ++ [(d1, st1)]).map Prod.fst = P1 at *
  generalize (Z1.map Prod.snd ++ [st1]).map dSt = T1 at *
  generalize (Z0.map Prod.snd ++ [st]).map dSt = TT at *
  generalize (Z0 ++ [(d0, st)]).map Prod.fst = PP at *
  unfold lawG
  rw [e_L_1015_2]
  have st1' : ∀ (δ : Ds) (Γ : List Sl) (S : List D) (Γ' : List Sl) (S' : List D), δ Γ S = .next Γ' S' → ∀ δ2, sSeq δ δ2 Γ S = δ2 Γ' S' := fun δ Γ S Γ' S' h δ2 => by rw [x_sSeq, h]
  rw [st1' _ _ _ [.val (.scr ns), .val (.ptr 0), .val (.ptr 1), .val (.ptr 3), .val t, .val (eD q), .non, .non, .non] (box ds1 k1 :: bkI :: .lst PP :: .lst TT :: R0) (by simp [la, h1])]
  rw [st1' _ _ _ [.val (.scr ns), .val (.ptr 0), .val (.ptr 1), .val (.ptr 3), .val t, .val (eD q), .val due, .non, .non] (box ds1 k1 :: bkI :: .lst PP :: .lst T1 :: R0) (by simp [h2])]
  rw [st1' _ _ _ [.val (.scr ns), .val (.ptr 0), .val (.ptr 1), .val (.ptr 3), .val t, .val (eD q), .val due, .non, .non] (box ds1 k1 :: bkI :: .lst P1 :: .lst T1 :: R') (by simp [h3, sm1])]
  rw [st1' _ _ _ [.val (.scr ns), .val (.ptr 0), .val (.ptr 1), .val (.ptr 3), .val t, .val (eD q), .val due, .val (.ptr (R'.length + 4)), .non] (box ds1 k1 :: bkI :: .lst P1 :: .lst T1 :: (R' ++ [dSt st1])) (by rw [x_sSet, mp]; simp [h4])]
  rw [st1' _ _ _ [.val (.scr ns), .val (.ptr 0), .val (.ptr 1), .val (.ptr 3), .val t, .val (eD q), .val due, .val (.ptr (R'.length + 4)), .non] (box ds1 k1 :: bkI :: .lst P1 :: .lst T1 :: (R' ++ [dSt st1])) (by simp [isd, la1, hso, sm2])]
  rw [st1' _ _ _ _ _ ck]
  rw [hsp]
  exact ⟨rfl, fin⟩
theorem law_true : ∀ ns : List Int, ns.length ≤ 63 → ∃ S, run 60 1015 [.scr ns] [] = .ok (.bl true) S := fun ns _ => by
  obtain ⟨ds, h1⟩ := run_box 57 ns 60 (by decide)
  replace h1 : run 59 1002 [.scr ns, .int 0, .int 60] [] = .ok (.ptr 0) [box ds 0] := h1
  have h2 : run 59 152 [.ptr 1] [box ds 0, .ins 22 [] []] = .ok .non [box ds 0, bkI, .lst [.dct [] []]] := by
    rw [run_152]
    have gp : ga_past 22 = true := rfl
    have pd : putD "past" (D.ptr 2) [] [] = ((["past"] : List Str), [D.ptr 2]) := by unfold putD; rfl
    simp [B_152, gp, pd, bkI]
  rw [run_1015]
  generalize hR : run 59 = R at h1 h2 ⊢
  have j0 : J 0 [box ds 0, bkI, .lst [.dct [] []], .lst [.dct [] []]] := ⟨ds, 0, [(dSt [], [])], [], rfl, fun x hx => by
    rw [List.mem_singleton] at hx; subst hx; exact .inl rfl, by simp, by simp, fun x hx => by
    rw [show [(dSt [], ([] : Stt))].map Prod.snd = [[]] from rfl, List.mem_singleton] at hx; subst hx; exact SOk.nil _ _ _⟩
  have lp := forD_wp (p := .nm 4) (kl := [4, 5, 6, 7, 8]) (β := L_1015_2 R) (R := fun _ _ => False) (N := fun Γ S2 => Γ = lawG ns)
    (fun j Γ S2 => Γ = lawG ns ∧ J j S2) (rangeD 0 25) 0 (lawG ns) [box ds 0, bkI, .lst [.dct [] []], .lst [.dct [] []]] ⟨rfl, j0⟩
    (fun j x Γ S2 hx ⟨hΓ, hS2⟩ => by
      subst hΓ
      have hj : j < 25 := by
        have := (List.getElem?_eq_some_iff.mp hx).1
        unfold rangeD at this
        simpa using this
      rw [Nat.zero_add] at hS2 ⊢
      exact ⟨_, x_bnm, (law_turn R hR.symm ns x j hj S2 hS2).mono (fun _ _ h => h) (fun _ _ h => h) (fun _ _ h => h.elim)⟩)
    (fun Γ S2 h => h.1)
  revert lp
  generalize hf : forD (.nm 4) [4, 5, 6, 7, 8] (L_1015_2 R) (rangeD 0 25) (lawG ns) [box ds 0, bkI, .lst [.dct [] []], .lst [.dct [] []]] = o
  intro lp
  have i2 : inR 25 = true := by decide
  have isn : isNon D.non = true := rfl
  cases o with
  | next Γ S2 =>
    have lp2 : Γ = lawG ns := lp
    subst lp2
    refine ⟨S2, ?_⟩
    unfold lawG at hf
    simp [B_1015, h1, h2, i2, isn, hf]
  | _ => exact lp.elim

end
end PV
open PySem PySem.W PyProof.Rows
set_option maxRecDepth 100000 in
set_option maxHeartbeats 0 in
theorem PySem.Challenge.cw_messageways_k51_books_holds : PySem.Challenge.rw_messageways_k51_books.Holds := by
  w_on; o_law; k_head; (case hw => w_witness2)
  k_fill
  refine DL.law_headG (l := PySem.Challenge.rw_messageways_k51_books) (k := 120) (x := "_law_script") rfl rfl ⟨⟨rfl, by decide, by decide⟩, rfl⟩ (fun w h Y => PySem.W.kIn_of Y) ?F
  case F =>
    intro w mg fa h KX G hmg
    refine' PV.all_mk KX G hmg ?a1 ?l1 ?c1 ?k1 ?a2 ?l2 ?c2 ?k2 ?a4 ?l4 ?c4 ?k4 ?a5 ?l5 ?c5 ?k5 ?a148 ?l148 ?c148 ?k148 ?a149 ?l149 ?c149 ?k149 ?a150 ?l150 ?c150 ?k150 ?a151 ?l151 ?c151 ?k151 ?a152 ?l152 ?c152 ?k152 ?i152 ?a153 ?l153 ?c153 ?k153 ?i153 ?a154 ?l154 ?c154 ?k154 ?i154 ?a155 ?l155 ?c155 ?k155 ?i155 ?a156 ?l156 ?c156 ?k156 ?i156 ?a157 ?l157 ?c157 ?k157 ?i157 ?a1000 ?l1000 ?c1000 ?k1000 ?a1001 ?l1001 ?c1001 ?k1001 ?a1002 ?l1002 ?c1002 ?k1002 ?a1003 ?l1003 ?c1003 ?k1003 ?a1004 ?l1004 ?c1004 ?k1004 ?a1005 ?l1005 ?c1005 ?k1005 ?a1006 ?l1006 ?c1006 ?k1006 ?a1007 ?l1007 ?c1007 ?k1007 ?a1008 ?l1008 ?c1008 ?k1008 ?a1009 ?l1009 ?c1009 ?k1009 ?a1010 ?l1010 ?c1010 ?k1010 ?a1011 ?l1011 ?c1011 ?k1011 ?a1012 ?l1012 ?c1012 ?k1012 ?a1013 ?l1013 ?c1013 ?k1013 ?a1014 ?l1014 ?c1014 ?k1014 ?a1015 ?l1015 ?c1015 ?k1015 ?a_Book ?pg_Book ?hd_Book ?po_Book ?sa_Book ?mk_Book ?kp_Book ?na_Book_past ?a_NoSuchPlace ?a_NoSuchKey ?cl_NoSuchPlace ?rv_NoSuchPlace ?iC_NoSuchPlace ?fn_NoSuchPlace ?cod_NoSuchPlace ?bd_NoSuchPlace ?cell_NoSuchPlace ?code_NoSuchPlace ?v2_NoSuchPlace ?file_NoSuchPlace ?tx_NoSuchPlace ?sa_NoSuchPlace ?no_NoSuchPlace ?tC_NoSuchPlace ?kC_NoSuchPlace ?ex_NoSuchPlace ?ve_NoSuchPlace ?ty_NoSuchPlace ?su_NoSuchPlace ?mc_NoSuchPlace ?ic_NoSuchPlace ?hg_NoSuchPlace ?hk_NoSuchPlace ?hd_NoSuchPlace ?ha_NoSuchPlace ?hm_NoSuchPlace ?cl_NoSuchKey ?rv_NoSuchKey ?iC_NoSuchKey ?fn_NoSuchKey ?cod_NoSuchKey ?bd_NoSuchKey ?cell_NoSuchKey ?code_NoSuchKey ?v2_NoSuchKey ?file_NoSuchKey ?tx_NoSuchKey ?sa_NoSuchKey ?no_NoSuchKey ?tC_NoSuchKey ?kC_NoSuchKey ?ex_NoSuchKey ?ve_NoSuchKey ?ty_NoSuchKey ?su_NoSuchKey ?mc_NoSuchKey ?ic_NoSuchKey ?hg_NoSuchKey ?hk_NoSuchKey ?hd_NoSuchKey ?ha_NoSuchKey ?hm_NoSuchKey ?thp ?tops ?hn ?ht ?xb_NoSuchKey ?xt_NoSuchKey ?xd_NoSuchKey ?xs_NoSuchKey_NoSuchPlace ?xk_NoSuchKey_NoSuchPlace ?xs_NoSuchKey_NoSuchKey ?xk_NoSuchKey_NoSuchKey ?xb_NoSuchPlace ?xt_NoSuchPlace ?xd_NoSuchPlace ?xs_NoSuchPlace_NoSuchPlace ?xk_NoSuchPlace_NoSuchPlace ?xs_NoSuchPlace_NoSuchKey ?xk_NoSuchPlace_NoSuchKey ?z_dict ?z_int ?z_isinstance ?z_len ?z_list ?z_range ?z_repr ?z_sorted ?z_super ?q_TEXT ?q_SELECT ?q_PLURAL ?q_OTHER ?q_CHOICES ?r_CHOICES PV.law_true
    (case a1 => k_is)
    (case l1 => k_is)
    (case c1 => k_is)
    (case k1 => k_is)
    (case a2 => k_is)
    (case l2 => k_is)
    (case c2 => k_is)
    (case k2 => k_is)
    (case a4 => k_is)
    (case l4 => k_is)
    (case c4 => k_is)
    (case k4 => k_is)
    (case a5 => k_is)
    (case l5 => k_is)
    (case c5 => k_is)
    (case k5 => k_is)
    (case a148 => k_is)
    (case l148 => k_is)
    (case c148 => k_is)
    (case k148 => k_is)
    (case a149 => k_is)
    (case l149 => k_is)
    (case c149 => k_is)
    (case k149 => k_is)
    (case a150 => k_is)
    (case l150 => k_is)
    (case c150 => k_is)
    (case k150 => k_is)
    (case a151 => k_is)
    (case l151 => k_is)
    (case c151 => k_is)
    (case k151 => k_is)
    (case a152 => k_is)
    (case l152 => k_is)
    (case c152 => k_is)
    (case k152 => k_is)
    (case i152 => k_is)
    (case a153 => k_is)
    (case l153 => k_is)
    (case c153 => k_is)
    (case k153 => k_is)
    (case i153 => k_is)
    (case a154 => k_is)
    (case l154 => k_is)
    (case c154 => k_is)
    (case k154 => k_is)
    (case i154 => k_is)
    (case a155 => k_is)
    (case l155 => k_is)
    (case c155 => k_is)
    (case k155 => k_is)
    (case i155 => k_is)
    (case a156 => k_is)
    (case l156 => k_is)
    (case c156 => k_is)
    (case k156 => k_is)
    (case i156 => k_is)
    (case a157 => k_is)
    (case l157 => k_is)
    (case c157 => k_is)
    (case k157 => k_is)
    (case i157 => k_is)
    (case a1000 => k_is)
    (case l1000 => k_is)
    (case c1000 => k_is)
    (case k1000 => k_is)
    (case a1001 => k_is)
    (case l1001 => k_is)
    (case c1001 => k_is)
    (case k1001 => k_is)
    (case a1002 => k_is)
    (case l1002 => k_is)
    (case c1002 => k_is)
    (case k1002 => k_is)
    (case a1003 => k_is)
    (case l1003 => k_is)
    (case c1003 => k_is)
    (case k1003 => k_is)
    (case a1004 => k_is)
    (case l1004 => k_is)
    (case c1004 => k_is)
    (case k1004 => k_is)
    (case a1005 => k_is)
    (case l1005 => k_is)
    (case c1005 => k_is)
    (case k1005 => k_is)
    (case a1006 => k_is)
    (case l1006 => k_is)
    (case c1006 => k_is)
    (case k1006 => k_is)
    (case a1007 => k_is)
    (case l1007 => k_is)
    (case c1007 => k_is)
    (case k1007 => k_is)
    (case a1008 => k_is)
    (case l1008 => k_is)
    (case c1008 => k_is)
    (case k1008 => k_is)
    (case a1009 => k_is)
    (case l1009 => k_is)
    (case c1009 => k_is)
    (case k1009 => k_is)
    (case a1010 => k_is)
    (case l1010 => k_is)
    (case c1010 => k_is)
    (case k1010 => k_is)
    (case a1011 => k_is)
    (case l1011 => k_is)
    (case c1011 => k_is)
    (case k1011 => k_is)
    (case a1012 => k_is)
    (case l1012 => k_is)
    (case c1012 => k_is)
    (case k1012 => k_is)
    (case a1013 => k_is)
    (case l1013 => k_is)
    (case c1013 => k_is)
    (case k1013 => k_is)
    (case a1014 => k_is)
    (case l1014 => k_is)
    (case c1014 => k_is)
    (case k1014 => k_is)
    (case a1015 => k_is)
    (case l1015 => k_is)
    (case c1015 => k_is)
    (case k1015 => k_is)
    (case a_Book => k_is)
    (case pg_Book => k_is)
    (case hd_Book => k_is)
    (case po_Book => k_is)
    (case sa_Book => k_is)
    (case mk_Book => k_is)
    (case kp_Book => k_is)
    (case na_Book_past => k_is)
    (case a_NoSuchPlace => k_is)
    (case a_NoSuchKey => k_is)
    (case cl_NoSuchPlace => k_is)
    (case rv_NoSuchPlace => first | rfl | decide +kernel)
    (case iC_NoSuchPlace => k_is)
    (case fn_NoSuchPlace => k_is)
    (case cod_NoSuchPlace => k_is)
    (case bd_NoSuchPlace => exact fun _ _ _ => BindsTo.of_eq rfl)
    (case cell_NoSuchPlace => k_is)
    (case code_NoSuchPlace => k_is)
    (case v2_NoSuchPlace => rfl)
    (case file_NoSuchPlace => first | rfl | decide +kernel)
    (case tx_NoSuchPlace => exact PV.tx_NoSuchPlace)
    (case sa_NoSuchPlace => k_is)
    (case no_NoSuchPlace => k_is)
    (case tC_NoSuchPlace => k_is)
    (case kC_NoSuchPlace => k_is)
    (case ex_NoSuchPlace => k_is)
    (case ve_NoSuchPlace => k_is)
    (case ty_NoSuchPlace => k_is)
    (case su_NoSuchPlace => ks_is)
    (case mc_NoSuchPlace => k_is)
    (case ic_NoSuchPlace => k_is)
    (case hg_NoSuchPlace => k_is)
    (case hk_NoSuchPlace => k_is)
    (case hd_NoSuchPlace => k_is)
    (case ha_NoSuchPlace => k_is)
    (case hm_NoSuchPlace => k_is)
    (case cl_NoSuchKey => k_is)
    (case rv_NoSuchKey => first | rfl | decide +kernel)
    (case iC_NoSuchKey => k_is)
    (case fn_NoSuchKey => k_is)
    (case cod_NoSuchKey => k_is)
    (case bd_NoSuchKey => exact fun _ _ _ => BindsTo.of_eq rfl)
    (case cell_NoSuchKey => k_is)
    (case code_NoSuchKey => k_is)
    (case v2_NoSuchKey => rfl)
    (case file_NoSuchKey => first | rfl | decide +kernel)
    (case tx_NoSuchKey => exact PV.tx_NoSuchKey)
    (case sa_NoSuchKey => k_is)
    (case no_NoSuchKey => k_is)
    (case tC_NoSuchKey => k_is)
    (case kC_NoSuchKey => k_is)
    (case ex_NoSuchKey => k_is)
    (case ve_NoSuchKey => k_is)
    (case ty_NoSuchKey => k_is)
    (case su_NoSuchKey => ks_is)
    (case mc_NoSuchKey => k_is)
    (case ic_NoSuchKey => k_is)
    (case hg_NoSuchKey => k_is)
    (case hk_NoSuchKey => k_is)
    (case hd_NoSuchKey => k_is)
    (case ha_NoSuchKey => k_is)
    (case hm_NoSuchKey => k_is)
    (case thp => k_is)
    (case tops => first | rfl | decide +kernel)
    (case hn => k_is)
    (case ht => k_is)
    (case xb_NoSuchKey => k_is)
    (case xt_NoSuchKey => k_is)
    (case xd_NoSuchKey => k_is)
    (case xs_NoSuchKey_NoSuchPlace => first | k_is | rfl)
    (case xk_NoSuchKey_NoSuchPlace => first | kit_is | k_is | rfl)
    (case xs_NoSuchKey_NoSuchKey => first | k_is | rfl)
    (case xk_NoSuchKey_NoSuchKey => first | kit_is | k_is | rfl)
    (case xb_NoSuchPlace => k_is)
    (case xt_NoSuchPlace => k_is)
    (case xd_NoSuchPlace => k_is)
    (case xs_NoSuchPlace_NoSuchPlace => first | k_is | rfl)
    (case xk_NoSuchPlace_NoSuchPlace => first | kit_is | k_is | rfl)
    (case xs_NoSuchPlace_NoSuchKey => first | k_is | rfl)
    (case xk_NoSuchPlace_NoSuchKey => first | kit_is | k_is | rfl)
    (case z_dict => k_is)
    (case z_int => k_is)
    (case z_isinstance => k_is)
    (case z_len => k_is)
    (case z_list => k_is)
    (case z_range => k_is)
    (case z_repr => k_is)
    (case z_sorted => k_is)
    (case z_super => k_is)
    (case q_TEXT => k_is)
    (case q_SELECT => k_is)
    (case q_PLURAL => k_is)
    (case q_OTHER => k_is)
    (case q_CHOICES => k_is)
    (case r_CHOICES => k_is)
