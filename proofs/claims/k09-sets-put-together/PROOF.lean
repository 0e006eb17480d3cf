import PyProof.Rows.All
import Wide.All
import OpenK.AllK
import Wide.FinOn
import HandS.ForMost
import HandS.ForExc
import HandS.IsInst
import HandS.Wide
import HandS.Lambda
import HandS.TupMul
import HandS.TupAny
import HandS.Text
import HandS.Steps
import HandS.NoneIn
import HandS.Iter
import HandS.EndBits
import HandS.RaiseMore
import HandS.Dict
import HandS.More
import HandS.ListItems
import KE.KExcSuper
import HandS.ExcField
import HandS.ExcIs
import HandS.ExcBuiltin
import PyProof.ReprRoads
import HandS.ExcCtx
import KE.KExcIs
import HandS.DictComp
import HandS.Style
import HandS.StrMore
import KE.GoesComp
import HandS.Strs
import HandS.SuiteRaise
import HandS.GenOver
import HandS.AnyAll
import KE.KNestM
import HandS.TupLe
import PyProof.StrLawsRepr
import PySem.Challenge.RW_messageways_k09_sets_put_together
set_option Elab.async false
set_option linter.all false
set_option maxRecDepth 100000
set_option maxHeartbeats 4000000
namespace DL
open PySem PySem.Spec PyProof.Rows L2
/-! ### tuples whose object is known whole: it has no dict -/
def SqX (K : PySem.W.Frag) (H : Hp) (a : Addr) (vs : List V) : Prop :=
  (∃ ob : Obj, ob.dict = none ∧ H a = some (.frz ob (.tup vs))) ∨
    ∃ (ob : Obj) (us : Array Value) (n : Nat), ob.dict = none ∧ K.lookup a = some ob ∧ ob.cls = .type "tuple" ∧ ob.data = .seq us n ∧ us.size ≤ sizeLine ∧ Vals vs us.toList
theorem SqX.sqT {K : PySem.W.Frag} {H : Hp} {a : Addr} {vs : List V} (h : SqX K H a vs) : SqT K H a vs := by
  rcases h with ⟨ob, _, e⟩ | ⟨ob, us, n, _, r⟩
  · exact .inl (.inr ⟨ob, e⟩)
  · exact .inr ⟨ob, us, n, r⟩
theorem SqX.of {K : PySem.W.Frag} {H : Hp} {a : Addr} {vs : List V} {ob : Obj} (hd : ob.dict = none) (h : H a = some (.frz ob (.tup vs))) : SqX K H a vs := .inl ⟨ob, hd, h⟩
/-- what a maker of tuples hands on -/
def NewX (H : Hp) (Q : VK) (vs : List V) : Prop := ∀ (p : Addr) (ob : Obj), H p = none → ob.dict = none → Q (.ref p) (upd H p (.frz ob (.tup vs)))
theorem layX {X : Cx} {ps : List (Addr × Obj)} {σ : L2.St} {H : Hp} {st : Shared} {vs : List V} {us : List Value} {Q : VK} (J : Inv X ps σ H st) (r : Vals vs us) (z : vs.length ≤ sizeLine) (q : NewX H Q vs) :
    EP X ps σ Q (.ref st.heap.objs.size) { st with heap := st.heap.push { cls := .type "tuple", data := .seq us.toArray } } :=
  ⟨.ref st.heap.objs.size, upd H st.heap.objs.size (.frz { cls := .type "tuple", data := .seq us.toArray } (.tup vs)), J.laid (t' := st.toks) (fun b u e => Heap.get?_push_of_some _ e) (Nat.le_refl _) ⟨Heap.get?_push_size _ rfl, z, us, r, IsTup.new _ _⟩,
    rfl, q _ _ (J.hok.fresh (Nat.le_refl _)) rfl⟩
section
variable {X : Cx} {es : List Expr} {t : TA} {pos : Pos}
def tTupX (t : TA) : TE := fun σ H Q => t σ H fun vs H1 => vs.length ≤ sizeLine ∧ NewX H1 Q vs
theorem pe_tupX {x1} (h : PA X es t) : PE X (.Tuple es x1 pos) (tTupX t) :=
  ⟨fun ps st σ H Q J hq => wpAny_Tuple_spliced (thn (h.run pos ps st σ H _ J hq) fun us s1 ⟨vs, H1, J1, r, z, q⟩ => ⟨(by rw [← r.length]; exact z), layX J1 r z q⟩)⟩
/-- t + u -/
def rCatX (K : PySem.W.Frag) : R2 := fun x y H Q => ∃ a b vs ws, x = .ref a ∧ y = .ref b ∧ SqT K H a vs ∧ SqT K H b ws ∧ vs.length + ws.length ≤ sizeLine ∧
  (vs = [] → Q (.ref b) H) ∧ (vs ≠ [] → ws = [] → Q (.ref a) H) ∧ (vs ≠ [] → ws ≠ [] → NewX H Q (vs ++ ws))
theorem op_catX : OpR X (binaryOp .Add) (rCatX X.K) := by
  intro ps st σ H x y v u Q J rx ry ⟨a, b, vs, ws, ex, ey, ha, hb, hz, q0, q1, q2⟩
  subst ex ey
  cases rx
  cases ry
  obtain ⟨us, r1, p1, _⟩ := J.tuple ha
  obtain ⟨us2, r2, p2, _⟩ := J.tuple hb
  by_cases hv : vs = []
  · subst hv
    cases r1
    exact cat_tup0 p1 p2 ⟨.ref b, H, J, rfl, q0 rfl⟩
  · refine HT.cat_tup p1 p2 (fun z => hv (r1.nil_iff.mp z)) (fun z => ⟨.ref a, H, J, rfl, q1 hv (r2.nil_iff.mp z)⟩) (fun z => ?_) (by rw [← r1.length, ← r2.length]; exact hz)
    exact layX J (r1.append r2) (by rw [List.length_append]; exact hz) (q2 hv fun w => z (r2.nil_iff.mpr w))
/-- t[lo:hi] -/
def rSlX (K : PySem.W.Frag) : V → Option Int → Option Int → Hp → VK → Prop := fun x lo hi H Q => ∃ a vs, x = .ref a ∧ SqT K H a vs ∧
  (HT.sIx vs.length 0 lo = 0 ∧ HT.sIx vs.length vs.length hi = vs.length → Q (.ref a) H) ∧ (¬ (HT.sIx vs.length 0 lo = 0 ∧ HT.sIx vs.length vs.length hi = vs.length) → NewX H Q (cutV vs lo hi))
theorem sl_tupX : SlR X (rSlX X.K) := by
  intro ps st σ H x v vl vu lo hi sl Q J rx hs pl pu ⟨a, vs, ex, hx, q1, q2⟩
  subst ex
  cases rx
  obtain ⟨us, r, ht, hz⟩ := J.tuple hx
  have hl : us.toArray.size = vs.length := by rw [List.size_toArray]; exact r.length.symm
  refine ⟨"tuple", _, PyProof.Rows.slot_tuple_getitem.lookup, ht.typeIs, ?_⟩
  by_cases hw : HT.sIx vs.length 0 lo = 0 ∧ HT.sIx vs.length vs.length hi = vs.length
  · exact getItem_tuple_whole ht hs pl pu (by rw [hl]; exact hw) ⟨.ref a, H, J, rfl, q1 hw⟩
  · refine HT.getItem_tuple_cut ht hs pl pu (by rw [hl]; exact hw) ?_ (by rw [hl]; exact hz)
    rw [hl]
    exact layX J ((r.drop (HT.sIx vs.length 0 lo)).take (HT.sIx vs.length vs.length hi - HT.sIx vs.length 0 lo)) (Nat.le_trans (cutV_length vs lo hi) hz) (q2 hw)
/-- tuple(x) -/
theorem call_tupleX : CallR X (.type "tuple") (fun xs H Q => ∃ p vs, xs = [.ref p] ∧ ((SqL X.K H p vs ∧ NewX H Q vs) ∨ (SqT X.K H p vs ∧ Q (.ref p) H))) := by
  intro ps st σ H xs us Q J r ⟨p, vs, ex, h⟩
  subst ex
  obtain ⟨u, eu, rx⟩ := vals1 r
  subst eu
  cases rx
  rcases h with ⟨hq, q⟩ | ⟨hq, q⟩
  · obtain ⟨ys, r', pl, hz⟩ := J.list hq
    have hl := r'.length
    refine call_tuple_list pl.isList (fun h' kp => ?_) (by simp only [List.size_toArray]; omega)
    exact layX (st := { st with heap := h' }) (J.kept (t' := st.toks) kp) r' hz q
  · obtain ⟨ys, r', pl, hz⟩ := J.tuple hq
    exact call_tuple_same pl ⟨.ref p, H, J, rfl, q⟩
/-- t * k, 2 and more times -/
def rRepX (K : PySem.W.Frag) : R2 := fun x y H Q => ∃ l k vs, x = .ref l ∧ y = .int k ∧ SqT K H l vs ∧ vs ≠ [] ∧ 2 ≤ k ∧ k ≤ 1000 ∧ vs.length ≤ 1000 ∧ NewX H Q (List.replicate k.toNat vs).flatten
theorem op_repX : OpR X (binaryOp .Mult) (rRepX X.K) := by
  intro ps st σ H x y v u Q J rx ry ⟨l, k, vs, ex, ey, hT, hne, h1, h2, hz, q⟩
  subst ex ey
  cases rx
  obtain ⟨tk, et⟩ := ry
  subst et
  obtain ⟨us, r, ⟨⟨kc, od, dat, sl⟩, ho, hc, n, hd⟩, hs⟩ := J.tuple hT
  simp only at hc hd
  subst hc hd
  have hlen : us.length = vs.length := r.length.symm
  have hemp : us.toArray.isEmpty = false := by
    cases us with
    | nil => cases r; exact absurd rfl hne
    | cons _ _ => rfl
  have hsz : us.toArray.size = vs.length := by rw [List.size_toArray, hlen]
  have hvk : ((vs.length : Nat) : Int) * k ≤ 1000 * k := Int.mul_le_mul_of_nonneg_right (by omega) (by omega)
  have hkv : k.toNat * vs.length ≤ 1000 * 1000 := Nat.mul_le_mul (by omega) hz
  have hfl : (List.replicate k.toNat us).flatten.length ≤ sizeLine := by
    rw [PyProof.Rows.lm_len_rep_flat, hlen, sizeLine_eq]; omega
  have g0 : (decide (k < -(2 ^ 63)) || decide (k ≥ 2 ^ 63)) = false := by
    rw [decide_eq_false (by omega), decide_eq_false (by omega)]; rfl
  have g1 : (us.toArray.isEmpty || k == 1) = false := by
    rw [hemp, Bool.false_or, beq_eq_false_iff_ne]; omega
  have g2 : (decide (k ≤ 0) || us.toArray.isEmpty) = false := by
    rw [hemp, Bool.or_false, decide_eq_false_iff_not]; omega
  have g4 : Builtin.Tuple.tupleTooMany (((us.toArray.size : Nat) : Int) * k) = false := by
    unfold Builtin.Tuple.tupleTooMany
    rw [hsz, sizeLine_eq, decide_eq_false_iff_not]; omega
  have key := layX J (r.rep k.toNat) (by rw [PyProof.Rows.lm_len_rep_flat, sizeLine_eq]; omega) q
  rw [← size_rep] at key
  exact wpAny_binaryOp_repeat_ref (T := "tuple") (U := "int") (by decide) ⟨_, ho, rfl⟩ (fun s' => typeIs_int s' k tk) noFill_tuple_mul F.fills_int_mul F.slot_int_rmul repeat_tuple F.slot_int_index.lookup
    (call_meets F.slot_int_rmul (typeIs_int st k tk) F.entry_int_rmul (F.args_int_rmul_2 _ _) (int_rmul_tuple k tk l us.toArray n od sl) ⟨ho, rfl, ⟨_, ho, rfl⟩,
      call_meets F.slot_tuple_mul ⟨_, ho, rfl⟩ F.entry_tuple_mul (F.args_tuple_mul_2 _ _) (tuple_mulW l us.toArray n od sl k tk g0 g1 g2 (by rw [hsz]; omega) g4 (by rw [size_rep, List.size_toArray]; exact hfl)) ⟨ho, key⟩⟩)
end
end DL

namespace DL
open PySem L2

/-! ### data -/
/-- the words of a lambda -/
structure LW where
  qual : Str
  params : Arguments
  body : Expr
  scope : Scope
/-- the object at f is the lambda F, its code object stands at c -/
def LamO (f : Addr) (F : LW) (c : Addr) : HO := .ext fun h => ∃ (od : Option Addr) (pm ctv : Value) (sl : Array (Option Value)), h.get? f = some (⟨.type "function", od, .func (PySem.W.kla_fn "<lambda>" F.qual F.params F.body F.scope [] pm (.ref c) ctv), sl⟩ : Obj)
/-- the code object at c, of that name, its table at P -/
def CodeP (c : Addr) (q : Str) (P : Addr) : HO := .ext fun h => PySem.W.CodeHd h c P ∧ h.CodeRec (.ref c) q
inductive D where
  | non | bl (b : Bool) | int (i : Int) | str (x : Str)
  | lst (xs : List D) | tup (xs : List D) | dct (ks : List Key) (xs : List D)
  | ins (c : Nat) (ns : List Str) (xs : List D) | ptr (i : Nat) | scr (ns : List Int)
  | fn (k : Nat) (F : LW)

/-- what is fixed: the written part, the classes by number -/
structure Cn where
  K : PySem.W.Frag
  cls : Nat → Addr

mutual
def Rep (C : Cn) (ρ : List Addr) (G : Hp) : D → V → Prop
  | .non, v => v = .non
  | .bl b, v => v = .bl b
  | .int i, v => v = .int i
  | .str x, v => v = .str x
  | .lst xs, v => ∃ a vs, v = .ref a ∧ G a = some (.lst vs) ∧ Reps C ρ G xs vs
  | .tup xs, v => ∃ a vs, v = .ref a ∧ SqX C.K G a vs ∧ Reps C ρ G xs vs
  | .dct ks xs, v => ∃ a vs, v = .ref a ∧ G a = some (.dK (ks.zip vs)) ∧ ks.length = xs.length ∧ Reps C ρ G xs vs
  | .ins c ns xs, v => ∃ a dx vs, v = .ref a ∧ G a = some (.ins (C.cls (c + 3)) dx (ns.zip vs)) ∧ ns.length = xs.length ∧ Reps C ρ G xs vs
  | .ptr i, v => ∃ a, ρ[i]? = some a ∧ v = .ref a
  | .scr ns, v => ∃ a, v = .ref a ∧ SqL C.K G a (ns.map V.int)
  | .fn _ F, v => ∃ f c P, v = .ref f ∧ G f = some (LamO f F c) ∧ G c = some (CodeP c F.qual P)
def Reps (C : Cn) (ρ : List Addr) (G : Hp) : List D → List V → Prop
  | [], vs => vs = []
  | x :: xs, vs => ∃ v r, vs = v :: r ∧ Rep C ρ G x v ∧ Reps C ρ G xs r
end

section
variable {C : Cn} {ρ ρ' : List Addr} {G G' H H' : Hp}

def Sub (G G' : Hp) : Prop := ∀ a o, G a = some o → G' a = some o
theorem Sub.refl : Sub G G := fun _ _ h => h
theorem Sub.trans {G1 G2 G3 : Hp} (a : Sub G1 G2) (b : Sub G2 G3) : Sub G1 G3 := fun x o h => b x o (a x o h)
theorem Sub.sqT {K : PySem.W.Frag} {a : Addr} {xs : List V} (e : Sub G G') (h : SqX K G a xs) : SqX K G' a xs := by
  rcases h with ⟨ob, d, h⟩ | h
  · exact .inl ⟨ob, d, e _ _ h⟩
  · exact .inr h
theorem Sub.sqL {K : PySem.W.Frag} {a : Addr} {xs : List V} (e : Sub G G') (h : SqL K G a xs) : SqL K G' a xs := by
  rcases h with (h | ⟨o, h⟩) | h
  · exact .inl (.inl (e _ _ h))
  · exact .inl (.inr ⟨o, e _ _ h⟩)
  · exact .inr h

/-- the same object, or a dict that is locked -/
def EqK (o o' : HO) : Prop := o' = o ∨ ∃ kvs ob, o = .dK kvs ∧ o' = .frz ob (.dK kvs)
/-- the names of the code objects that a table holds, by the table's number -/
def tabName : Nat → Str
  | 1 => "union.<locals>.<lambda>"
  | 2 => "common.<locals>.<lambda>"
  | 3 => "difference.<locals>.<lambda>"
  | 4 => "relation_holds.<locals>.<genexpr>"
  | 5 => "condition_holds.<locals>.<genexpr>"
  | 7 => "natural_of.<locals>.<genexpr>"
  | 8 => "rule_of.<locals>.<genexpr>"
  | _ => ""
def TabC (G H : Hp) (P : Addr) (nm : Option Str) : Prop := ∃ ps : Array Value, H P = some (.tbl ps) ∧ TriplesOk ps.toList ∧ ∀ (pos : Pos) (cv : Value), codeAmong pos ps.toList = some cv → ∃ c q P', cv = .ref c ∧ G c = some (CodeP c q P') ∧ ∀ n, nm = some n → q = n
def Tab (C : Cn) (G H : Hp) (i : Nat) : Prop := C.cls (i + 1000) ≠ 0 → TabC G H (C.cls (i + 1000)) (some (tabName i))
/-- a code object stands settled at c -/
def KnC (c : Addr) : Hp → Prop := fun G => ∃ q P, G c = some (CodeP c q P)
def Codes (C : Cn) (G H : Hp) : Prop := ∀ c, KnC c G → ∃ q P, G c = some (CodeP c q P) ∧ TabC G H P none ∧ ∀ j, C.cls (j + 1000) ≠ 0 → C.cls (j + 1000) ≠ P
def NoTE (o : Option HO) : Prop := (∀ ps, o ≠ some (.tbl ps)) ∧ ∀ f, o ≠ some (.ext f)
theorem TabC.upd {P : Addr} {nm : Option Str} {a : Addr} {o : HO} (t : TabC G H P nm) (h : NoTE (H a)) : TabC G (upd H a o) P nm := by
  obtain ⟨ps, h1, h2, h3⟩ := t
  exact ⟨ps, by rw [upd_ne (fun y => h.1 ps (by rw [← y]; exact h1))]; exact h1, h2, h3⟩
theorem TabC.mono {P : Addr} {nm : Option Str} (t : TabC G H P nm) (e : Sub G G') : TabC G' H P nm := by
  obtain ⟨ps, h1, h2, h3⟩ := t
  refine ⟨ps, h1, h2, fun pos cv hc => ?_⟩
  obtain ⟨c, q, P', e1, e2, e3⟩ := h3 pos cv hc
  exact ⟨c, q, P', e1, e _ _ e2, e3⟩
theorem TabC.ext {P : Addr} {nm : Option Str} (t : TabC G H P nm) (e : ∀ ps, H P = some (.tbl ps) → H' P = some (.tbl ps)) : TabC G H' P nm := by
  obtain ⟨ps, h1, h2, h3⟩ := t
  exact ⟨ps, e ps h1, h2, h3⟩
theorem Tab.upd {i : Nat} {a : Addr} {o : HO} (t : Tab C G H i) (h : NoTE (H a)) : Tab C G (upd H a o) i := fun z => (t z).upd h
theorem Tab.mono {i : Nat} (t : Tab C G H i) (e : Sub G G') : Tab C G' H i := fun z => (t z).mono e
theorem Codes.upd {a : Addr} {o : HO} (t : Codes C G H) (h : NoTE (H a)) : Codes C G (L2.upd H a o) := fun c e => by
  obtain ⟨q, P, e1, e2, e3⟩ := t c e
  exact ⟨q, P, e1, e2.upd h, e3⟩
/-- what is settled stands in the heap -/
structure SubA (G H : Hp) : Prop where
  at_ : ∀ a o, G a = some o → ∃ o', H a = some o' ∧ EqK o o'
/-- and the tables of code objects stand there -/
structure SubH (C : Cn) (G H : Hp) : Prop extends SubA G H where
  tab : ∀ i, Tab C G H i
  codes : Codes C G H
  notb : ∀ a ps, G a ≠ some (.tbl ps)
theorem SubA.get (e : SubA G H) {a : Addr} {o : HO} (h : G a = some o) (n : ∀ kvs, o ≠ .dK kvs) : H a = some o := by
  obtain ⟨o', h1, h2 | ⟨kvs, ob, h2, _⟩⟩ := e.at_ a o h
  · rw [h1, h2]
  · exact absurd h2 (n kvs)
theorem SubA.has (e : SubA G H) {a : Addr} {o : HO} (h : G a = some o) : ∃ o', H a = some o' := by
  obtain ⟨o', h1, _⟩ := e.at_ a o h
  exact ⟨o', h1⟩
theorem SubA.dk (e : SubA G H) {a : Addr} {kvs : List (Key × V)} (h : G a = some (.dK kvs)) : Rd H a (.dK kvs) := by
  obtain ⟨o', h1, h2 | ⟨kvs', ob, h2, h3⟩⟩ := e.at_ a _ h
  · exact .inl (by rw [h1, h2])
  · cases h2; exact .inr ⟨ob, by rw [h1, h3]⟩
theorem SubA.gone (e : SubA G H) {a : Addr} (h : H a = none) : G a = none := by
  cases q : G a with
  | none => rfl
  | some u => obtain ⟨o', h1⟩ := e.has q; rw [h1] at h; cases h
theorem SubA.sqX {K : PySem.W.Frag} {a : Addr} {xs : List V} (e : SubA G H) (h : SqX K G a xs) : SqX K H a xs := by
  rcases h with ⟨ob, d, h⟩ | h
  · exact .inl ⟨ob, d, e.get h fun _ z => nomatch z⟩
  · exact .inr h
theorem SubA.sqT {K : PySem.W.Frag} {a : Addr} {xs : List V} (e : SubA G H) (h : SqX K G a xs) : SqT K H a xs := (e.sqX h).sqT
theorem SubA.sqL {K : PySem.W.Frag} {a : Addr} {xs : List V} (e : SubA G H) (h : SqL K G a xs) : SqL K H a xs := by
  rcases h with (h | ⟨o, h⟩) | h
  · exact .inl (.inl (e.get h fun _ z => nomatch z))
  · exact .inl (.inr ⟨o, e.get h fun _ z => nomatch z⟩)
  · exact .inr h
theorem SubA.lst {a : Addr} {xs : List V} (e : SubA G H) (h : G a = some (.lst xs)) : H a = some (.lst xs) := e.get h fun _ z => nomatch z
theorem SubA.back {G0 : Hp} (e : SubA G H) (s : Sub G0 G) : SubA G0 H := ⟨fun a o h => e.at_ a o (s a o h)⟩
theorem SubH.upd {a : Addr} {o : HO} (e : SubH C G H) (hg : G a = none) (h : NoTE (H a)) : SubH C G (L2.upd H a o) := ⟨⟨fun b u q => by rw [upd_ne (ne_of_none q hg)]; exact e.at_ b u q⟩, fun i => (e.tab i).upd h, e.codes.upd h, e.notb⟩
theorem codeP_dk {c : Addr} {q : Str} {P : Addr} : ∀ kvs, CodeP c q P ≠ .dK kvs := fun _ z => by unfold CodeP at z; cases z
theorem TabC.put {P : Addr} {nm : Option Str} {p : Addr} {o : HO} (e : SubA G H) (t : TabC G H P nm) (ho : H p = some o) : TabC (L2.upd G p o) H P nm := by
  obtain ⟨ps, h1, h2, h3⟩ := t
  refine ⟨ps, h1, h2, fun pos cv hc => ?_⟩
  obtain ⟨c, q, P', e1, e2, e3⟩ := h3 pos cv hc
  refine ⟨c, q, P', e1, ?_, e3⟩
  by_cases y : c = p
  · subst y
    have := e.get e2 codeP_dk
    rw [ho] at this
    rw [upd_same]; exact this
  · rw [upd_ne y]; exact e2
theorem SubA.put {p : Addr} {o : HO} (e : SubA G H) (ho : H p = some o) : SubA (L2.upd G p o) H := ⟨fun a u h => by
  by_cases z : a = p
  · subst z; rw [upd_same] at h; cases h; exact ⟨_, ho, .inl rfl⟩
  · rw [upd_ne z] at h; exact e.at_ a u h⟩
theorem SubH.put {p : Addr} {o : HO} (e : SubH C G H) (ho : H p = some o) (hx : NoTE (some o)) : SubH C (L2.upd G p o) H := ⟨e.toSubA.put ho, fun i z => (e.tab i z).put e.toSubA ho, fun c ⟨q, P, h⟩ => by
  by_cases y : c = p
  · subst y; rw [upd_same] at h; exact absurd h (hx.2 _)
  · rw [upd_ne y] at h
    obtain ⟨q2, P2, h1, h2, h3⟩ := e.codes c ⟨q, P, h⟩
    exact ⟨q2, P2, by rw [upd_ne y]; exact h1, h2.put e.toSubA ho, h3⟩, fun a ps h => by
  by_cases y : a = p
  · subst y; rw [upd_same] at h; exact hx.1 ps h
  · rw [upd_ne y] at h; exact e.notb a ps h⟩
theorem noTE_none : NoTE none := ⟨fun _ z => (nomatch z), fun _ z => (nomatch z)⟩
theorem noTE_of {a : Addr} (h : H a = none) : NoTE (H a) := by rw [h]; exact noTE_none
theorem noTE_lst {a : Addr} {xs : List V} (h : H a = some (.lst xs)) : NoTE (H a) := by rw [h]; exact ⟨fun _ z => (nomatch z), fun _ z => (nomatch z)⟩
theorem noTE_dK {a : Addr} {xs : List (Key × V)} (h : H a = some (.dK xs)) : NoTE (H a) := by rw [h]; exact ⟨fun _ z => (nomatch z), fun _ z => (nomatch z)⟩

mutual
theorem Rep.mono (e : Sub G G') (p : ρ <+: ρ') : ∀ (d : D) (v : V), Rep C ρ G d v → Rep C ρ' G' d v
  | .non, _, h => by rw [Rep] at h ⊢; exact h
  | .bl _, _, h => by rw [Rep] at h ⊢; exact h
  | .int _, _, h => by rw [Rep] at h ⊢; exact h
  | .str _, _, h => by rw [Rep] at h ⊢; exact h
  | .lst xs, _, h => by
    rw [Rep] at h ⊢
    obtain ⟨a, vs, rfl, h1, h2⟩ := h
    exact ⟨a, vs, rfl, e _ _ h1, Reps.mono e p xs vs h2⟩
  | .tup xs, _, h => by
    rw [Rep] at h ⊢
    obtain ⟨a, vs, rfl, h1, h2⟩ := h
    exact ⟨a, vs, rfl, e.sqT h1, Reps.mono e p xs vs h2⟩
  | .dct ks xs, _, h => by
    rw [Rep] at h ⊢
    obtain ⟨a, vs, rfl, h1, h3, h2⟩ := h
    exact ⟨a, vs, rfl, e _ _ h1, h3, Reps.mono e p xs vs h2⟩
  | .ins c ns xs, _, h => by
    rw [Rep] at h ⊢
    obtain ⟨a, dx, vs, rfl, h1, h3, h2⟩ := h
    exact ⟨a, dx, vs, rfl, e _ _ h1, h3, Reps.mono e p xs vs h2⟩
  | .ptr i, _, h => by
    rw [Rep] at h ⊢
    obtain ⟨a, h1, rfl⟩ := h
    obtain ⟨t, rfl⟩ := p
    exact ⟨a, by rw [List.getElem?_append_left (List.getElem?_eq_some_iff.mp h1).1]; exact h1, rfl⟩
  | .scr ns, _, h => by
    rw [Rep] at h ⊢
    obtain ⟨a, rfl, h1⟩ := h
    exact ⟨a, rfl, e.sqL h1⟩
  | .fn k F, _, h => by
    rw [Rep] at h ⊢
    obtain ⟨f, c, P, h0, h1, h2⟩ := h
    exact ⟨f, c, P, h0, e _ _ h1, e _ _ h2⟩
theorem Reps.mono (e : Sub G G') (p : ρ <+: ρ') : ∀ (ds : List D) (vs : List V), Reps C ρ G ds vs → Reps C ρ' G' ds vs
  | [], _, h => by rw [Reps] at h ⊢; exact h
  | x :: xs, _, h => by
    rw [Reps] at h ⊢
    obtain ⟨v, r, rfl, h1, h2⟩ := h
    exact ⟨v, r, rfl, Rep.mono e p x v h1, Reps.mono e p xs r h2⟩
end

theorem Reps.nil : Reps C ρ G [] [] := by rw [Reps]
theorem Reps.cons {x : D} {xs : List D} {v : V} {vs : List V} (h : Rep C ρ G x v) (t : Reps C ρ G xs vs) : Reps C ρ G (x :: xs) (v :: vs) := by rw [Reps]; exact ⟨v, vs, rfl, h, t⟩
theorem Reps.inv {x : D} {xs : List D} {vs : List V} (h : Reps C ρ G (x :: xs) vs) : ∃ v r, vs = v :: r ∧ Rep C ρ G x v ∧ Reps C ρ G xs r := by rw [Reps] at h; exact h
theorem Reps.inv0 {vs : List V} (h : Reps C ρ G [] vs) : vs = [] := by rw [Reps] at h; exact h
theorem Reps.length : ∀ {ds : List D} {vs : List V}, Reps C ρ G ds vs → ds.length = vs.length
  | [], _, h => by rw [h.inv0]; rfl
  | x :: xs, _, h => by
    obtain ⟨v, r, rfl, _, h2⟩ := h.inv
    rw [List.length_cons, List.length_cons, Reps.length h2]
theorem Reps.get : ∀ {ds : List D} {vs : List V} {i : Nat} {d : D}, Reps C ρ G ds vs → ds[i]? = some d → ∃ v, vs[i]? = some v ∧ Rep C ρ G d v
  | [], _, _, _, _, e => by simp at e
  | x :: xs, _, 0, d, h, e => by
    obtain ⟨v, r, rfl, h1, h2⟩ := h.inv
    simp at e; subst e
    exact ⟨v, rfl, h1⟩
  | x :: xs, _, i + 1, d, h, e => by
    obtain ⟨v, r, rfl, h1, h2⟩ := h.inv
    simpa using Reps.get (i := i) h2 (by simpa using e)
theorem Reps.get' : ∀ {ds : List D} {vs : List V} {i : Nat} {v : V}, Reps C ρ G ds vs → vs[i]? = some v → ∃ d, ds[i]? = some d ∧ Rep C ρ G d v
  | [], _, _, _, h, e => by rw [h.inv0] at e; simp at e
  | x :: xs, _, 0, d, h, e => by
    obtain ⟨v, r, rfl, h1, h2⟩ := h.inv
    simp at e; subst e
    exact ⟨x, rfl, h1⟩
  | x :: xs, _, i + 1, d, h, e => by
    obtain ⟨v, r, rfl, h1, h2⟩ := h.inv
    simpa using Reps.get' (i := i) h2 (by simpa using e)
theorem Reps.append : ∀ {ds es : List D} {vs ws : List V}, Reps C ρ G ds vs → Reps C ρ G es ws → Reps C ρ G (ds ++ es) (vs ++ ws)
  | [], _, _, _, h, k => by rw [h.inv0]; exact k
  | x :: xs, _, _, _, h, k => by
    obtain ⟨v, r, rfl, h1, h2⟩ := h.inv
    exact .cons h1 (Reps.append h2 k)
theorem Reps.take : ∀ {ds : List D} {vs : List V} (n : Nat), Reps C ρ G ds vs → Reps C ρ G (ds.take n) (vs.take n)
  | _, _, 0, _ => by simpa using Reps.nil
  | [], _, n + 1, h => by rw [h.inv0]; exact Reps.nil
  | x :: xs, _, n + 1, h => by
    obtain ⟨v, r, rfl, h1, h2⟩ := h.inv
    exact .cons h1 (Reps.take n h2)
theorem Reps.drop : ∀ {ds : List D} {vs : List V} (n : Nat), Reps C ρ G ds vs → Reps C ρ G (ds.drop n) (vs.drop n)
  | _, _, 0, h => h
  | [], _, n + 1, h => by rw [h.inv0]; exact Reps.nil
  | x :: xs, _, n + 1, h => by
    obtain ⟨v, r, rfl, h1, h2⟩ := h.inv
    exact Reps.drop n h2
theorem Reps.set {d : D} {v : V} (k : Rep C ρ G d v) : ∀ {ds : List D} {vs : List V} (n : Nat), Reps C ρ G ds vs → Reps C ρ G (ds.set n d) (vs.set n v)
  | [], _, n, h => by rw [h.inv0]; exact Reps.nil
  | x :: xs, _, 0, h => by
    obtain ⟨v, r, rfl, h1, h2⟩ := h.inv
    exact .cons k h2
  | x :: xs, _, n + 1, h => by
    obtain ⟨v, r, rfl, h1, h2⟩ := h.inv
    exact .cons h1 (Reps.set k n h2)
theorem Reps.reverse : ∀ {ds : List D} {vs : List V}, Reps C ρ G ds vs → Reps C ρ G ds.reverse vs.reverse
  | [], _, h => by rw [h.inv0]; exact Reps.nil
  | x :: xs, _, h => by
    obtain ⟨v, r, rfl, h1, h2⟩ := h.inv
    rw [List.reverse_cons, List.reverse_cons]
    exact (Reps.reverse h2).append (.cons h1 .nil)
theorem Reps.rep {ds : List D} {vs : List V} (h : Reps C ρ G ds vs) : ∀ k : Nat, Reps C ρ G (List.replicate k ds).flatten (List.replicate k vs).flatten
  | 0 => .nil
  | k + 1 => by
    rw [List.replicate_succ, List.replicate_succ, List.flatten_cons, List.flatten_cons]
    exact h.append (Reps.rep h k)
theorem Reps.dropLast {ds : List D} {vs : List V} (h : Reps C ρ G ds vs) : Reps C ρ G ds.dropLast vs.dropLast := by
  rw [List.dropLast_eq_take, List.dropLast_eq_take, h.length]; exact h.take _

/-! ### what stands at an address that may change -/
def ObAt (C : Cn) (ρ : List Addr) (G H : Hp) (a : Addr) : D → Prop
  | .lst xs => ∃ vs, H a = some (.lst vs) ∧ Reps C ρ G xs vs
  | .dct ks xs => ∃ vs, H a = some (.dK (ks.zip vs)) ∧ ks.length = xs.length ∧ Reps C ρ G xs vs
  | .ins c ns xs => ∃ dx vs, H a = some (.ins (C.cls (c + 3)) dx (ns.zip vs)) ∧ ns.length = xs.length ∧ Reps C ρ G xs vs
  | _ => False
theorem ObAt.mono {a : Addr} (e : Sub G G') (p : ρ <+: ρ') (k : ∀ o, H a = some o → H' a = some o) : ∀ {d : D}, ObAt C ρ G H a d → ObAt C ρ' G' H' a d
  | .lst xs, ⟨vs, h, r⟩ => ⟨vs, k _ h, Reps.mono e p _ _ r⟩
  | .dct ks xs, ⟨vs, h, l, r⟩ => ⟨vs, k _ h, l, Reps.mono e p _ _ r⟩
  | .ins c ns xs, ⟨dx, vs, h, l, r⟩ => ⟨dx, vs, k _ h, l, Reps.mono e p _ _ r⟩
theorem ObAt.some {a : Addr} : ∀ {d : D}, ObAt C ρ G H a d → ∃ o, H a = some o
  | .lst xs, ⟨vs, h, _⟩ => ⟨_, h⟩
  | .dct ks xs, ⟨vs, h, _⟩ => ⟨_, h⟩
  | .ins c ns xs, ⟨dx, vs, h, _⟩ => ⟨_, h⟩
theorem ObAt.plain {a : Addr} : ∀ {d : D}, ObAt C ρ G H a d → NoTE (H a)
  | .lst xs, ⟨vs, h, _⟩ => by rw [h]; exact ⟨fun _ z => (nomatch z), fun _ z => (nomatch z)⟩
  | .dct ks xs, ⟨vs, h, _⟩ => by rw [h]; exact ⟨fun _ z => (nomatch z), fun _ z => (nomatch z)⟩
  | .ins c ns xs, ⟨dx, vs, h, _⟩ => by rw [h]; exact ⟨fun _ z => (nomatch z), fun _ z => (nomatch z)⟩
/-- an object that changes no more -/
theorem ObAt.rep {a : Addr} : ∀ {d : D}, ObAt C ρ G G a d → Rep C ρ G d (V.ref a)
  | .lst xs, ⟨vs, h, r⟩ => by rw [Rep]; exact ⟨a, vs, rfl, h, r⟩
  | .dct ks xs, ⟨vs, h, l, r⟩ => by rw [Rep]; exact ⟨a, vs, rfl, h, l, r⟩
  | .ins c ns xs, ⟨dx, vs, h, l, r⟩ => by rw [Rep]; exact ⟨a, dx, vs, rfl, h, l, r⟩

/-! ### the slots -/
structure Exn where
  c : Nat
  ns : List Str
  fs : List D
inductive Sl where
  | non | val (d : D) | own (d : D) | xcp (x : Exn)
/-- the exception that is handled: it stands at C.cls 0, its dict, if it has one, at C.cls 1 less one, its class is C.cls 2 -/
def XOk (C : Cn) (ρ : List Addr) (G : Hp) (x : Exn) : Prop := C.cls 2 = C.cls (x.c + 3) ∧ (x.fs = [] → C.cls 1 = 0) ∧ (x.fs ≠ [] → ∃ d vs, C.cls 1 = d + 1 ∧ G d = some (.xd (x.ns.zip vs)) ∧ x.ns.length = x.fs.length ∧ Reps C ρ G x.fs vs)
theorem XOk.mono {x : Exn} (e : Sub G G') (p : ρ <+: ρ') (h : XOk C ρ G x) : XOk C ρ' G' x := ⟨h.1, h.2.1, fun z => by
  obtain ⟨d, vs, q, a, b, c⟩ := h.2.2 z
  exact ⟨d, vs, q, e _ _ a, b, Reps.mono e p _ _ c⟩⟩

structure Mem (C : Cn) (Γ : List Sl) (S : List D) (ρ : List Addr) (G H : Hp) (σ : L2.St) : Prop where
  sub : SubH C G H
  val : ∀ (i : Nat) (d : D), Γ[i]? = some (Sl.val d) → ∃ v, σ[i]? = some (some v) ∧ Rep C ρ G d v
  own : ∀ (i : Nat) (d : D), Γ[i]? = some (Sl.own d) → ∃ a, σ[i]? = some (some (V.ref a)) ∧ ObAt C ρ G H a d ∧ G a = none ∧ a ∉ ρ
  inj : ∀ (i j : Nat) (d d' : D) (a : Addr), Γ[i]? = some (Sl.own d) → Γ[j]? = some (Sl.own d') → σ[i]? = some (some (V.ref a)) → σ[j]? = some (some (V.ref a)) → i = j
  sto : ∀ (i : Nat) (d : D), S[i]? = some d → ∃ a, ρ[i]? = some a ∧ ObAt C ρ G H a d
  stG : ∀ a ∈ ρ, G a = none
  len : ρ.length = S.length
  nd : ρ.Nodup
  wid : Γ.length = σ.length
  xcp : ∀ (i : Nat) (x : Exn), Γ[i]? = some (Sl.xcp x) → σ[i]? = some (some (V.ref (C.cls 0))) ∧ XOk C ρ G x

/-- what an expression does to the memory -/
structure Nx (ρ : List Addr) (G H : Hp) (ρ' : List Addr) (G' H' : Hp) : Prop where
  pre : ρ <+: ρ'
  ext : Sub G G'
  new : ∀ a o, G' a = some o → G a = some o ∨ H a = none
  keep : ∀ a o, (∀ ps, o ≠ .tbl ps) → H a = some o → a ∉ ρ → H' a = some o
  live : ∀ a, H' a = none → H a = none
  fre : ∀ a ∈ ρ', a ∈ ρ ∨ H a = none
theorem Nx.refl : Nx ρ G H ρ G H := ⟨List.prefix_refl _, .refl, fun _ _ h => .inl h, fun _ _ _ h _ => h, fun _ h => h, fun _ h => .inl h⟩
theorem Nx.trans {ρ1 ρ2 ρ3 : List Addr} {G1 G2 G3 H1 H2 H3 : Hp} (x : Nx ρ1 G1 H1 ρ2 G2 H2) (y : Nx ρ2 G2 H2 ρ3 G3 H3) : Nx ρ1 G1 H1 ρ3 G3 H3 where
  pre := x.pre.trans y.pre
  ext := x.ext.trans y.ext
  new := fun a o h => by
    rcases y.new a o h with h | h
    · exact x.new a o h
    · exact .inr (x.live a h)
  keep := fun a o t h n => by
    refine y.keep a o t (x.keep a o t h n) fun m => ?_
    rcases x.fre a m with z | z
    · exact n z
    · rw [h] at z; cases z
  live := fun a h => x.live a (y.live a h)
  fre := fun a m => by
    rcases y.fre a m with z | z
    · exact x.fre a z
    · exact .inr (x.live a z)

/-- the memory alone (a callee's) -/
abbrev MemS (C : Cn) (S : List D) (ρ : List Addr) (G H : Hp) : Prop := Mem C [] S ρ G H []
theorem Mem.toS {Γ : List Sl} {S : List D} {σ : L2.St} (m : Mem C Γ S ρ G H σ) : MemS C S ρ G H :=
  ⟨m.sub, fun i d h => by simp at h, fun i d h => by simp at h, fun i j d d' a h => by simp at h, m.sto, m.stG, m.len, m.nd, rfl, fun i x h => by simp at h⟩
/-- behind a step that knows nothing of the slots -/
theorem Mem.step {Γ : List Sl} {S S' : List D} {σ : L2.St} (m : Mem C Γ S ρ G H σ) (n : Nx ρ G H ρ' G' H') (m' : MemS C S' ρ' G' H') : Mem C Γ S' ρ' G' H' σ where
  sub := m'.sub
  val := fun i d h => by
    obtain ⟨v, e, r⟩ := m.val i d h
    exact ⟨v, e, r.mono n.ext n.pre⟩
  own := fun i d h => by
    obtain ⟨a, e, r, g, p⟩ := m.own i d h
    obtain ⟨o, ho⟩ := r.some
    refine ⟨a, e, r.mono n.ext n.pre fun o q => n.keep a o (fun ps z => r.plain.1 ps (by rw [q, z])) q p, ?_, fun z => ?_⟩
    · cases q : G' a with
      | none => rfl
      | some o' =>
        rcases n.new a o' q with z | z
        · rw [g] at z; cases z
        · rw [ho] at z; cases z
    · rcases n.fre a z with z | z
      · exact p z
      · rw [ho] at z; cases z
  inj := m.inj
  sto := m'.sto
  stG := m'.stG
  len := m'.len
  nd := m'.nd
  wid := m.wid
  xcp := fun i x h => ⟨(m.xcp i x h).1, (m.xcp i x h).2.mono n.ext n.pre⟩

/-! ### results -/
inductive Res (α : Type) where
  | ok (a : α) (S : List D)
  | exc (e : Exn) (S : List D)
  | stuck
def Res.bind {α β : Type} (r : Res α) (f : α → List D → Res β) : Res β := match r with
  | .ok a S => f a S
  | .exc e S => .exc e S
  | .stuck => .stuck
@[simp] theorem Res.bind_ok {α β : Type} (a : α) (S : List D) (f : α → List D → Res β) : (Res.ok a S).bind f = f a S := Eq.trans rfl rfl
@[simp] theorem Res.bind_exc {α β : Type} (e : Exn) (S : List D) (f : α → List D → Res β) : (Res.exc e S : Res α).bind f = .exc e S := Eq.trans rfl rfl
@[simp] theorem Res.bind_stuck {α β : Type} (f : α → List D → Res β) : (Res.stuck : Res α).bind f = .stuck := Eq.trans rfl rfl

abbrev De := List Sl → List D → Res D
abbrev Da := List Sl → List D → Res (List D)
abbrev Dt := List Sl → List D → Res Bool
inductive Out where
  | next (Γ : List Sl) (S : List D) | ret (d : D) (S : List D) | brk (Γ : List Sl) (S : List D) | cont (Γ : List Sl) (S : List D) | exc (e : Exn) (Γ : List Sl) (S : List D) | stuck
abbrev Ds := List Sl → List D → Out

/-- an exception as it lies -/
def ExRep (C : Cn) (ρ : List Addr) (G H : Hp) (e : Exn) (cls : Value) (dx : Option Addr) : Prop :=
  cls = .ref (C.cls (e.c + 3)) ∧ (e.fs = [] → dx = none) ∧ (e.fs ≠ [] → ∃ d vs, dx = some d ∧ G d = some (.xd (e.ns.zip vs)) ∧ e.ns.length = e.fs.length ∧ Reps C ρ G e.fs vs)

/-- what is wanted behind an evaluation (RV: how the value lies) -/
abbrev RVT (α β : Type) := Hp → List Addr → Hp → Hp → α → β → Prop
def Post (C : Cn) (W : WX) {α β : Type} (RV : RVT α β) (Γ : List Sl) (ρ : List Addr) (G H : Hp) (σ : L2.St) (r : Res α) (Q : β → Hp → Prop) : Prop := match r with
  | .ok d S' => ∀ v ρ' G' H', Mem C Γ S' ρ' G' H' σ → Nx ρ G H ρ' G' H' → RV H ρ' G' H' d v → Q v H'
  | .exc e S' => ∀ cls dx ρ' G' H', Mem C Γ S' ρ' G' H' σ → Nx ρ G H ρ' G' H' → ExRep C ρ' G' H' e cls dx → W cls dx σ H'
  | .stuck => False
/-- settled -/
def RS (C : Cn) : RVT D V := fun _ ρ G _ d v => Rep C ρ G d v
/-- readable: settled, or an object of a slot's own -/
def RO (C : Cn) : RVT D V := fun _ ρ G H d v => Rep C ρ G d v ∨ ∃ a, v = V.ref a ∧ a ∉ ρ ∧ ObAt C ρ G H a d
/-- new -/
def RF (C : Cn) : RVT D V := fun H0 ρ G H d v => ∃ a, v = V.ref a ∧ a ∉ ρ ∧ H0 a = none ∧ G a = none ∧ ObAt C ρ G H a d
def RB : RVT Bool Bool := fun _ _ _ _ b c => b = c
def RA (C : Cn) : RVT (List D) (List V) := fun _ ρ G _ ds vs => Reps C ρ G ds vs
/-- the start may lie further back -/
def Back {α β : Type} (RV : RVT α β) : Prop := ∀ (H0 H1 : Hp) ρ G H d v, (∀ a, H1 a = none → H0 a = none) → RV H1 ρ G H d v → RV H0 ρ G H d v
theorem back_RS : Back (RS C) := fun _ _ _ _ _ _ _ _ h => h
theorem back_RO : Back (RO C) := fun _ _ _ _ _ _ _ _ h => h
theorem back_RF : Back (RF C) := fun _ _ _ _ _ _ _ k ⟨a, e, n, z, r⟩ => ⟨a, e, n, k a z, r⟩
theorem back_RB : Back RB := fun _ _ _ _ _ _ _ _ h => h
theorem back_RA : Back (RA C) := fun _ _ _ _ _ _ _ _ h => h

section
variable {W : WX} {α β γ δ : Type} {RV : RVT α β} {RV2 : RVT γ δ} {Γ : List Sl} {S : List D} {σ : L2.St}
theorem Post.mono {r : Res α} {Q Q' : β → Hp → Prop} (h : Post C W RV Γ ρ G H σ r Q) (q : ∀ v H', Q v H' → Q' v H') : Post C W RV Γ ρ G H σ r Q' := by
  cases r with
  | ok d S => exact fun v ρ' G' H' a b c => q _ _ (h v ρ' G' H' a b c)
  | exc e S => exact h
  | stuck => exact h
theorem Post.conv {RV' : RVT α β} {r : Res α} {Q : β → Hp → Prop} (h : Post C W RV' Γ ρ G H σ r Q) (c : ∀ ρ' G' H' d v, RV H ρ' G' H' d v → RV' H ρ' G' H' d v) : Post C W RV Γ ρ G H σ r Q := by
  cases r with
  | ok d S => exact fun v ρ' G' H' a b z => h v ρ' G' H' a b (c _ _ _ _ _ z)
  | exc e S => exact h
  | stuck => exact h
theorem Post.shift (bk : Back RV) {r : Res α} {Q : β → Hp → Prop} (h : Post C W RV Γ ρ G H σ r Q) {ρ1 : List Addr} {G1 H1 : Hp} (n : Nx ρ G H ρ1 G1 H1) : Post C W RV Γ ρ1 G1 H1 σ r Q := by
  cases r with
  | ok d S => exact fun v ρ' G' H' a b c => h v ρ' G' H' a (n.trans b) (bk _ _ _ _ _ _ _ n.live c)
  | exc e S => exact fun cls dx ρ' G' H' a b c => h cls dx ρ' G' H' a (n.trans b) c
  | stuck => exact h
/-- one evaluation ahead of another -/
theorem Post.seq (bk : Back RV2) {r : Res α} {f : α → List D → Res γ} {Q : δ → Hp → Prop} (h : Post C W RV2 Γ ρ G H σ (r.bind f) Q) :
    Post C W RV Γ ρ G H σ r (fun v H1 => ∃ d S1 ρ1 G1, Mem C Γ S1 ρ1 G1 H1 σ ∧ Nx ρ G H ρ1 G1 H1 ∧ RV H ρ1 G1 H1 d v ∧ Post C W RV2 Γ ρ1 G1 H1 σ (f d S1) Q) := by
  cases r with
  | ok d S => exact fun v ρ1 G1 H1 m n c => ⟨d, S, ρ1, G1, m, n, c, Post.shift bk h n⟩
  | exc e S => exact h
  | stuck => exact h
/-- an evaluation's end -/
theorem Post.here {d : α} {v : β} {Q : β → Hp → Prop} (h : Post C W RV Γ ρ G H σ (.ok d S) Q) {ρ' : List Addr} {G' H' : Hp} (m : Mem C Γ S ρ' G' H' σ) (n : Nx ρ G H ρ' G' H') (c : RV H ρ' G' H' d v) : Q v H' := h v ρ' G' H' m n c
theorem Post.at {d : α} {v : β} {Q : β → Hp → Prop} (h : Post C W RV Γ ρ G H σ (.ok d S) Q) (m : Mem C Γ S ρ G H σ) (c : RV H ρ G H d v) : Q v H := h v ρ G H m .refl c
end

/-! ### an expression by what it evaluates to -/
def tE (C : Cn) (W : WX) (RV : RVT D V) (δ : De) : TE := fun σ H Q => ∃ Γ S ρ G, Mem C Γ S ρ G H σ ∧ Post C W RV Γ ρ G H σ (δ Γ S) Q
def tT (C : Cn) (W : WX) (δ : Dt) : TT := fun σ H Q => ∃ Γ S ρ G, Mem C Γ S ρ G H σ ∧ Post C W RB Γ ρ G H σ (δ Γ S) Q
def tA (C : Cn) (W : WX) (δ : Da) : TA := fun σ H Q => ∃ Γ S ρ G, Mem C Γ S ρ G H σ ∧ Post C W (RA C) Γ ρ G H σ (δ Γ S) Q
def DE (X : Cx) (cls : Nat → Addr) (W : WX) (e : Expr) (δ : De) : Prop := PE X e (tE ⟨X.K, cls⟩ W (RS ⟨X.K, cls⟩) δ)
def DO (X : Cx) (cls : Nat → Addr) (W : WX) (e : Expr) (δ : De) : Prop := PE X e (tE ⟨X.K, cls⟩ W (RO ⟨X.K, cls⟩) δ)
def DF (X : Cx) (cls : Nat → Addr) (W : WX) (e : Expr) (δ : De) : Prop := PE X e (tE ⟨X.K, cls⟩ W (RF ⟨X.K, cls⟩) δ)
def DT (X : Cx) (cls : Nat → Addr) (W : WX) (e : Expr) (δ : Dt) : Prop := PT X e (tT ⟨X.K, cls⟩ W δ)
def DW (X : Cx) (cls : Nat → Addr) (W : WX) (e : Expr) (δ : Dt) : Prop := PW X e (tT ⟨X.K, cls⟩ W δ)
def DA (X : Cx) (cls : Nat → Addr) (W : WX) (es : List Expr) (δ : Da) : Prop := PA X es (tA ⟨X.K, cls⟩ W δ)

theorem PE.weak {X : Cx} {e : Expr} {t t' : TE} (h : PE X e t) (i : ∀ σ H Q, t' σ H Q → t σ H Q) : PE X e t' := ⟨fun pins s σ H Q I h' => h.run pins s σ H Q I (i σ H Q h')⟩
theorem PT.weak {X : Cx} {e : Expr} {t t' : TT} (h : PT X e t) (i : ∀ σ H Q, t' σ H Q → t σ H Q) : PT X e t' := ⟨fun pins s σ H Q I h' => h.run pins s σ H Q I (i σ H Q h')⟩
theorem PW.weak {X : Cx} {e : Expr} {t t' : TT} (h : PW X e t) (i : ∀ σ H Q, t' σ H Q → t σ H Q) : PW X e t' := ⟨fun w pins s σ H Q I h' => h.run w pins s σ H Q I (i σ H Q h')⟩
theorem PA.weak {X : Cx} {e : List Expr} {t t' : TA} (h : PA X e t) (i : ∀ σ H Q, t' σ H Q → t σ H Q) : PA X e t' := ⟨fun p pins s σ H Q I h' => h.run p pins s σ H Q I (i σ H Q h')⟩
theorem PS.weak {X : Cx} {e : Stmt} {t t' : TS} (h : PS X e t) (i : ∀ D σ H, t' D σ H → t D σ H) : PS X e t' := ⟨fun pins s σ H D I h' => h.run pins s σ H D I (i D σ H h')⟩
theorem PSs.weak {X : Cx} {e : List Stmt} {t t' : TS} (h : PSs X e t) (i : ∀ D σ H, t' D σ H → t D σ H) : PSs X e t' := ⟨fun pins s σ H D I h' => h.run pins s σ H D I (i D σ H h')⟩

/-! ### reading -/
def deref (S : List D) : D → D
  | .ptr k => match S[k]? with | some d => d | none => .ptr k
  | d => d
/-- how a value reads at the heap -/
def RT (C : Cn) (ρ : List Addr) (G H : Hp) (d : D) (v : V) : Prop := match d with
  | .lst xs => ∃ a vs, v = V.ref a ∧ H a = some (.lst vs) ∧ Reps C ρ G xs vs
  | .dct ks xs => ∃ a vs, v = V.ref a ∧ Rd H a (.dK (ks.zip vs)) ∧ ks.length = xs.length ∧ Reps C ρ G xs vs
  | .ins c ns xs => ∃ a dx vs, v = V.ref a ∧ H a = some (.ins (C.cls (c + 3)) dx (ns.zip vs)) ∧ ns.length = xs.length ∧ Reps C ρ G xs vs
  | d => Rep C ρ G d v
theorem ObAt.rt {a : Addr} : ∀ {d : D}, ObAt C ρ G H a d → RT C ρ G H d (V.ref a)
  | .lst xs, ⟨vs, h, r⟩ => ⟨a, vs, rfl, h, r⟩
  | .dct ks xs, ⟨vs, h, l, r⟩ => ⟨a, vs, rfl, .inl h, l, r⟩
  | .ins c ns xs, ⟨dx, vs, h, l, r⟩ => ⟨a, dx, vs, rfl, h, l, r⟩
theorem Rep.rt (e : SubH C G H) : ∀ {d : D} {v : V}, Rep C ρ G d v → RT C ρ G H d v
  | .non, _, h => h
  | .bl _, _, h => h
  | .int _, _, h => h
  | .str _, _, h => h
  | .tup _, _, h => h
  | .ptr _, _, h => h
  | .scr _, _, h => h
  | .fn _ _, _, h => h
  | .lst xs, _, h => by
    rw [Rep] at h
    obtain ⟨a, vs, rfl, h1, h2⟩ := h
    exact ⟨a, vs, rfl, e.lst h1, h2⟩
  | .dct ks xs, _, h => by
    rw [Rep] at h
    obtain ⟨a, vs, rfl, h1, l, h2⟩ := h
    exact ⟨a, vs, rfl, e.dk h1, l, h2⟩
  | .ins c ns xs, _, h => by
    rw [Rep] at h
    obtain ⟨a, dx, vs, rfl, h1, l, h2⟩ := h
    exact ⟨a, dx, vs, rfl, e.get h1 (fun _ z => nomatch z), l, h2⟩
theorem Mem.read {Γ : List Sl} {S : List D} {σ : L2.St} {H0 : Hp} {d : D} {v : V} (m : Mem C Γ S ρ G H σ) (r : RO C H0 ρ G H d v) : RT C ρ G H (deref S d) v := by
  rcases r with r | ⟨a, rfl, n, r⟩
  · cases d with
    | ptr k =>
      unfold deref
      rw [Rep] at r
      obtain ⟨a, h1, rfl⟩ := r
      have hk : k < S.length := by rw [← m.len]; exact (List.getElem?_eq_some_iff.mp h1).1
      obtain ⟨b, hb, r⟩ := m.sto k S[k] (List.getElem?_eq_getElem hk)
      rw [h1] at hb; cases hb
      show RT C ρ G H (match S[k]? with | some d => d | none => D.ptr k) (V.ref a)
      rw [List.getElem?_eq_getElem hk]
      exact r.rt
    | _ => exact r.rt m.sub
  · cases d with
    | lst _ => exact r.rt
    | dct _ _ => exact r.rt
    | ins _ _ _ => exact r.rt
    | _ => exact (show False from r).elim
/-- readable still, behind a step -/
theorem RO.step {H0 H1 : Hp} {d : D} {v : V} (n : Nx ρ G H ρ' G' H') (r : RO C H0 ρ G H d v) : RO C H1 ρ' G' H' d v := by
  rcases r with r | ⟨a, rfl, na, r⟩
  · exact .inl (r.mono n.ext n.pre)
  · obtain ⟨o, ho⟩ := r.some
    refine .inr ⟨a, rfl, fun z => ?_, r.mono n.ext n.pre fun o q => n.keep a o (fun ps z => r.plain.1 ps (by rw [q, z])) q na⟩
    rcases n.fre a z with z | z
    · exact na z
    · rw [ho] at z; cases z

section
variable {v : V}
theorem rep_non : Rep C ρ G .non v ↔ v = .non := by rw [Rep]
theorem rep_bl {b : Bool} : Rep C ρ G (.bl b) v ↔ v = .bl b := by rw [Rep]
theorem rep_int {b : Int} : Rep C ρ G (.int b) v ↔ v = .int b := by rw [Rep]
theorem rep_str {b : Str} : Rep C ρ G (.str b) v ↔ v = .str b := by rw [Rep]
theorem rep_tup {xs : List D} : Rep C ρ G (.tup xs) v ↔ ∃ a vs, v = V.ref a ∧ SqX C.K G a vs ∧ Reps C ρ G xs vs := by rw [Rep]
theorem rep_lst {xs : List D} : Rep C ρ G (.lst xs) v ↔ ∃ a vs, v = V.ref a ∧ G a = some (.lst vs) ∧ Reps C ρ G xs vs := by rw [Rep]
theorem rep_ptr {i : Nat} : Rep C ρ G (.ptr i) v ↔ ∃ a, ρ[i]? = some a ∧ v = V.ref a := by rw [Rep]
theorem rep_scr {ns : List Int} : Rep C ρ G (.scr ns) v ↔ ∃ a, v = V.ref a ∧ SqL C.K G a (ns.map V.int) := by rw [Rep]
theorem rt_non : RT C ρ G H .non v ↔ v = .non := rep_non (C := C) (ρ := ρ) (G := G)
theorem rt_bl {b : Bool} : RT C ρ G H (.bl b) v ↔ v = .bl b := rep_bl (C := C) (ρ := ρ) (G := G)
theorem rt_int {b : Int} : RT C ρ G H (.int b) v ↔ v = .int b := rep_int (C := C) (ρ := ρ) (G := G)
theorem rt_str {b : Str} : RT C ρ G H (.str b) v ↔ v = .str b := rep_str (C := C) (ρ := ρ) (G := G)
theorem rt_tup {xs : List D} : RT C ρ G H (.tup xs) v ↔ ∃ a vs, v = V.ref a ∧ SqX C.K G a vs ∧ Reps C ρ G xs vs := rep_tup (C := C) (ρ := ρ) (G := G)
theorem rt_ptr {i : Nat} : RT C ρ G H (.ptr i) v ↔ ∃ a, ρ[i]? = some a ∧ v = V.ref a := rep_ptr (C := C) (ρ := ρ) (G := G)
theorem rt_scr {ns : List Int} : RT C ρ G H (.scr ns) v ↔ ∃ a, v = V.ref a ∧ SqL C.K G a (ns.map V.int) := rep_scr (C := C) (ρ := ρ) (G := G)
end
/-! ### a new object -/
theorem Mem.new {Γ : List Sl} {S : List D} {σ : L2.St} {p : Addr} {o : HO} (m : Mem C Γ S ρ G H σ) (hp : H p = none) : Mem C Γ S ρ G (upd H p o) σ ∧ Nx ρ G H ρ G (upd H p o) ∧ p ∉ ρ ∧ G p = none := by
  have gp : G p = none := m.sub.gone hp
  have k : Sub H (upd H p o) := fun a u h => by rw [upd_ne (ne_of_none h hp)]; exact h
  have np : p ∉ ρ := fun z => by
    obtain ⟨i, hi⟩ := List.mem_iff_getElem?.mp z
    have hi2 : i < S.length := by rw [← m.len]; exact (List.getElem?_eq_some_iff.mp hi).1
    obtain ⟨a, ha, r⟩ := m.sto i S[i] (List.getElem?_eq_getElem hi2)
    rw [hi] at ha; cases ha
    obtain ⟨o, ho⟩ := r.some
    rw [ho] at hp; cases hp
  have n : Nx ρ G H ρ G (upd H p o) := ⟨List.prefix_refl _, .refl, fun _ _ h => .inl h, fun a u _ h _ => k a u h, fun a h => by
    by_cases e : a = p
    · subst e; exact hp
    · rw [upd_ne e] at h; exact h, fun _ h => .inl h⟩
  exact ⟨⟨m.sub.upd gp (noTE_of hp), m.val, fun i d h => by
    obtain ⟨a, e, r, g, q⟩ := m.own i d h
    exact ⟨a, e, r.mono .refl (List.prefix_refl _) fun o h => k _ _ h, g, q⟩, m.inj, fun i d h => by
    obtain ⟨a, e, r⟩ := m.sto i d h
    exact ⟨a, e, r.mono .refl (List.prefix_refl _) fun o h => k _ _ h⟩, m.stG, m.len, m.nd, m.wid, m.xcp⟩, n, np, gp⟩
/-- what is new is settled -/
theorem Mem.settle {Γ : List Sl} {S S' : List D} {σ : L2.St} {p : Addr} {o : HO} {ρ0 : List Addr} {G0 H0 : Hp} (m0 : Mem C Γ S ρ0 G0 H0 σ) (n : Nx ρ0 G0 H0 ρ G H) (m : Mem C Γ S' ρ G H σ) (h0 : H0 p = none) (hg : G p = none) (hp : p ∉ ρ) (ho : H p = some o) (hx : NoTE (some o)) :
    Mem C Γ S' ρ (upd G p o) H σ ∧ Nx ρ0 G0 H0 ρ (upd G p o) H ∧ Sub G (upd G p o) := by
  have k : Sub G (upd G p o) := fun a u h => by rw [upd_ne (ne_of_none h hg)]; exact h
  refine ⟨⟨m.sub.put ho hx, fun i d h => ?_, fun i d h => ?_, m.inj, fun i d h => ?_, fun a h => ?_, m.len, m.nd, m.wid, fun i x h => ⟨(m.xcp i x h).1, (m.xcp i x h).2.mono k (List.prefix_refl _)⟩⟩, ⟨n.pre, n.ext.trans k, fun a u h => ?_, n.keep, n.live, n.fre⟩, k⟩
  · obtain ⟨v, e, r⟩ := m.val i d h
    exact ⟨v, e, r.mono k (List.prefix_refl _)⟩
  · obtain ⟨a, e, r, g, q⟩ := m.own i d h
    obtain ⟨a0, e0, r0, _, _⟩ := m0.own i d h
    rw [e] at e0; cases e0
    obtain ⟨u, hu⟩ := r0.some
    have ne : a ≠ p := fun z => by rw [z, h0] at hu; cases hu
    exact ⟨a, e, r.mono k (List.prefix_refl _) fun _ h => h, by rw [upd_ne ne]; exact g, q⟩
  · obtain ⟨a, e, r⟩ := m.sto i d h
    exact ⟨a, e, r.mono k (List.prefix_refl _) fun _ h => h⟩
  · rw [upd_ne (fun z => hp (by rw [← z]; exact h))]; exact m.stG a h
  · by_cases e : a = p
    · subst e; exact .inr h0
    · rw [upd_ne e] at h; exact n.new a u h
theorem RF.settle {Γ : List Sl} {S S' : List D} {σ : L2.St} {ρ0 : List Addr} {G0 H0 : Hp} {d : D} {v : V} (m0 : Mem C Γ S ρ0 G0 H0 σ) (n : Nx ρ0 G0 H0 ρ G H) (m : Mem C Γ S' ρ G H σ) (r : RF C H0 ρ G H d v) :
    ∃ G', Mem C Γ S' ρ G' H σ ∧ Nx ρ0 G0 H0 ρ G' H ∧ Rep C ρ G' d v := by
  obtain ⟨a, rfl, na, h0, hg, r⟩ := r
  obtain ⟨o, ho⟩ := r.some
  obtain ⟨m', n', k⟩ := Mem.settle m0 n m h0 hg na ho (ho ▸ r.plain)
  refine ⟨_, m', n', ObAt.rep ?_⟩
  refine r.mono k (List.prefix_refl _) fun u hu => ?_
  rw [ho] at hu; cases hu
  exact upd_same
end
end DL

namespace DL
open PySem L2

/-! ### operations on data -/
mutual
def toPy : D → Option PyData
  | .non => some .none
  | .bl b => some (.bool b)
  | .int i => some (.int i)
  | .str x => some (.str x)
  | .lst xs => (toPys xs).map .list
  | .tup xs => (toPys xs).map .tuple
  | .dct _ _ => none
  | .ins _ _ _ => none
  | .ptr _ => none
  | .scr _ => none
  | .fn _ _ => none
def toPys : List D → Option (List PyData)
  | [] => some []
  | x :: xs => (toPy x).bind fun p => (toPys xs).map fun q => p :: q
end
section
variable {C : Cn} {ρ : List Addr} {G H : Hp}
mutual
theorem dp_of (e : SubH C G H) : ∀ (d : D) (v : V) (p : PyData), Rep C ρ G d v → toPy d = some p → Dp C.K H v p
  | .non, _, _, h, k => by rw [Rep] at h; rw [toPy] at k; cases k; subst h; exact .non
  | .bl _, _, _, h, k => by rw [Rep] at h; rw [toPy] at k; cases k; subst h; exact .bl _
  | .int _, _, _, h, k => by rw [Rep] at h; rw [toPy] at k; cases k; subst h; exact .int _
  | .str _, _, _, h, k => by rw [Rep] at h; rw [toPy] at k; cases k; subst h; exact .str _
  | .lst xs, _, p, h, k => by
    rw [Rep] at h
    obtain ⟨a, vs, rfl, h1, h2⟩ := h
    rw [toPy] at k
    cases q : toPys xs with
    | none => rw [q] at k; cases k
    | some ps =>
      rw [q] at k; cases k
      exact .lst (SqL.of (e.lst h1)) (dps_of e xs vs ps h2 q)
  | .tup xs, _, p, h, k => by
    rw [Rep] at h
    obtain ⟨a, vs, rfl, h1, h2⟩ := h
    rw [toPy] at k
    cases q : toPys xs with
    | none => rw [q] at k; cases k
    | some ps =>
      rw [q] at k; cases k
      exact .tup (e.sqT h1) (dps_of e xs vs ps h2 q)
  | .dct _ _, _, _, _, k => by rw [toPy] at k; cases k
  | .ins _ _ _, _, _, _, k => by rw [toPy] at k; cases k
  | .ptr _, _, _, _, k => by rw [toPy] at k; cases k
  | .scr _, _, _, _, k => by rw [toPy] at k; cases k
  | .fn _ _, _, _, _, k => by rw [toPy] at k; cases k
theorem dps_of (e : SubH C G H) : ∀ (ds : List D) (vs : List V) (ps : List PyData), Reps C ρ G ds vs → toPys ds = some ps → DpAll C.K H vs ps
  | [], _, _, h, k => by rw [h.inv0]; rw [toPys] at k; cases k; exact .nil
  | x :: xs, _, ps, h, k => by
    obtain ⟨v, r, rfl, h1, h2⟩ := h.inv
    rw [toPys] at k
    cases q : toPy x with
    | none => rw [q] at k; cases k
    | some p =>
      cases q2 : toPys xs with
      | none => rw [q, q2] at k; cases k
      | some ps' =>
        rw [q, q2] at k; cases k
        exact .cons (dp_of e x v p h1 q) (dps_of e xs r ps' h2 q2)
end
theorem dp_rt (e : SubH C G H) {d : D} {v : V} {p : PyData} (h : RT C ρ G H d v) (k : toPy d = some p) : Dp C.K H v p := by
  cases d with
  | lst xs =>
    obtain ⟨a, vs, rfl, h1, h2⟩ := h
    rw [toPy] at k
    cases q : toPys xs with
    | none => rw [q] at k; cases k
    | some ps =>
      rw [q] at k; cases k
      exact .lst (SqL.of h1) (dps_of e xs vs ps h2 q)
  | dct _ _ => rw [toPy] at k; cases k
  | ins _ _ _ => rw [toPy] at k; cases k
  | _ => exact dp_of e _ _ _ h k
end

def dEqP (a b : D) : Option Bool := match toPy a, toPy b with
  | some p, some q => if p.canLay0 = true ∧ q.canLay0 = true ∧ min p.depth q.depth ≤ 64 then some (PyData.eqv p q) else none
  | _, _ => none
def dEq : D → D → Option Bool
  | .str a, .str b => some (a == b)
  | a, b => dEqP a b
theorem dEq_cases (a b : D) : (∃ x y, a = .str x ∧ b = .str y ∧ dEq a b = some (x == y)) ∨ dEq a b = dEqP a b := by
  cases a <;> first | exact .inr rfl | (cases b <;> first | exact .inr rfl | exact .inl ⟨_, _, rfl, rfl, rfl⟩)
def cEq (a b : D) : Option D := (dEq a b).map .bl
def cNe (a b : D) : Option D := (dEq a b).map fun k => .bl (!k)
def cLt : D → D → Option D
  | .int i, .int j => some (.bl (decide (i < j)))
  | .str i, .str j => some (.bl (decide (i.cps.toList < j.cps.toList)))
  | _, _ => none
def cLe : D → D → Option D
  | .int i, .int j => some (.bl (decide (i ≤ j)))
  | .str i, .str j => some (.bl (!decide (j.cps.toList < i.cps.toList)))
  | _, _ => none
def cGt : D → D → Option D
  | .int i, .int j => some (.bl (decide (j < i)))
  | .str i, .str j => some (.bl (decide (j.cps.toList < i.cps.toList)))
  | _, _ => none
def cGe : D → D → Option D
  | .int i, .int j => some (.bl (decide (j ≤ i)))
  | .str i, .str j => some (.bl (!decide (i.cps.toList < j.cps.toList)))
  | _, _ => none
def isNon : D → Bool | .non => true | _ => false
def cIs : D → D → Option D | a, .non => some (.bl (isNon a)) | _, _ => none
def cIsNot : D → D → Option D | a, .non => some (.bl (!isNon a)) | _, _ => none
def dAdd : D → D → Option D
  | .int i, .int j => some (.int (i + j))
  | .str a, .str b => if a.length + b.length ≤ sizeLine then some (.str (a ++ b)) else none
  | .lst a, .lst b => if a.length + b.length ≤ sizeLine then some (.lst (a ++ b)) else none
  | .tup a, .tup b => if a.length + b.length ≤ sizeLine then some (.tup (a ++ b)) else none
  | _, _ => none
def dSub : D → D → Option D
  | .int i, .int j => some (.int (i - j))
  | _, _ => none
def mulOk (i j : Int) : Prop := (-(2 ^ 64) < i ∧ i < 2 ^ 64) ∨ (-(2 ^ 64) < j ∧ j < 2 ^ 64)
instance (i j : Int) : Decidable (mulOk i j) := by unfold mulOk; infer_instance
def dMul : D → D → Option D
  | .int i, .int j => if mulOk i j then some (.int (i * j)) else none
  | .lst xs, .int k => if -(2 ^ 63) ≤ k ∧ k < 2 ^ 63 ∧ xs.length * k.toNat ≤ sizeLine then some (.lst (List.replicate k.toNat xs).flatten) else none
  | .tup xs, .int k => if 1 ≤ k ∧ k ≤ 1000 ∧ xs.length ≤ 1000 then some (.tup (List.replicate k.toNat xs).flatten) else none
  | _, _ => none
def dDiv : D → D → Option D
  | .int i, .int j => if 0 < j ∧ j < 1073741824 then some (.int (i / j)) else none
  | _, _ => none
def dMod : D → D → Option D
  | .int i, .int j => if 0 < j then some (.int (i % j)) else none
  | _, _ => none
def dPow : D → D → Option D
  | .int i, .int j => if 0 ≤ j ∧ j ≤ 1000000 ∧ i.natAbs < 2 ^ 64 then some (.int (i ^ j.toNat)) else none
  | _, _ => none
def dNeg : D → Option D
  | .int i => some (.int (-i))
  | _ => none
def keyD : D → Option Key
  | .int i => some (.inl i)
  | .str x => some (.inr x)
  | _ => none
/-- the value of a key -/
def dGet : List Key → List D → Key → Option D
  | k :: ks, x :: xs, q => if k = q then some x else dGet ks xs q
  | _, _, _ => none
def dIdx : D → D → Option D
  | .lst xs, .int i => atI xs i
  | .tup xs, .int i => atI xs i
  | .scr ns, .int i => (atI ns i).map .int
  | .str x, .int i => if x.length ≤ sizeLine then (atI x.cps.toList i).map fun c => .str ⟨#[c]⟩ else none
  | _, _ => none
def dLen : D → Option D
  | .lst xs => some (.int xs.length)
  | .tup xs => some (.int xs.length)
  | .scr xs => some (.int xs.length)
  | .str x => if x.length ≤ sizeLine then some (.int x.length) else none
  | _ => none
def dTruth : D → Option Bool
  | .non => some false
  | .bl b => some b
  | .int i => some (i != 0)
  | .str x => if x.length ≤ sizeLine then some ((x.length : Int) != 0) else none
  | .lst xs => some !xs.isEmpty
  | .tup xs => some !xs.isEmpty
  | _ => none
/-- things that == compares at once -/
def flatD : D → Bool
  | .non | .bl _ | .int _ | .str _ => true
  | _ => false
def eqF : D → D → Bool
  | .non, .non => true
  | .bl a, .bl b => a == b
  | .bl a, .int j => (if a then 1 else 0) == j
  | .int i, .bl b => i == (if b then 1 else 0)
  | .int i, .int j => i == j
  | .str x, .str y => decide (x = y)
  | _, _ => false
def inF (x : D) (xs : List D) : Bool := xs.any fun y => eqF y x
def dIn : D → D → Option Bool
  | x, .lst xs => if flatD x ∧ xs.all flatD then some (inF x xs) else none
  | x, .tup xs => if flatD x ∧ xs.all flatD then some (inF x xs) else none
  | .str x, .str y => if x.length = 1 then some (decide (x.cps.getD 0 0 ∈ y.cps.toList)) else none
  | _, _ => none
def cIn (a b : D) : Option D := (dIn a b).map .bl
def cNotIn (a b : D) : Option D := (dIn a b).map fun k => .bl (!k)
def cutD (xs : List D) (lo hi : Option Int) : List D := (xs.drop (HT.sIx xs.length 0 lo)).take (HT.sIx xs.length xs.length hi - HT.sIx xs.length 0 lo)

/-! ### the forms of expressions -/
def eV (i : Nat) : De := fun Γ S => match Γ[i]? with | some (.val d) => .ok d S | _ => .stuck
def oV (i : Nat) : De := fun Γ S => match Γ[i]? with | some (.val d) => .ok d S | some (.own d) => .ok d S | _ => .stuck
def eC (d : D) : De := fun _ S => .ok d S
def ofO {α : Type} (o : Option α) (S : List D) : Res α := match o with | some d => .ok d S | none => .stuck
@[simp] theorem ofO_some {α : Type} (a : α) (S : List D) : ofO (some a) S = .ok a S := Eq.trans rfl rfl
@[simp] theorem ofO_none {α : Type} (S : List D) : ofO (none : Option α) S = .stuck := Eq.trans rfl rfl
def eOp (f : D → D → Option D) (a b : De) : De := fun Γ S => (a Γ S).bind fun x S1 => (b Γ S1).bind fun y S2 => ofO (f (deref S2 x) (deref S2 y)) S2
def eUn (f : D → Option D) (a : De) : De := fun Γ S => (a Γ S).bind fun x S1 => ofO (f (deref S1 x)) S1
def asB : D → Option Bool | .bl b => some b | _ => none
def tB (a : De) : Dt := fun Γ S => (a Γ S).bind fun x S1 => ofO (asB x) S1
def tTru (a : De) : Dt := fun Γ S => (a Γ S).bind fun x S1 => ofO (dTruth (deref S1 x)) S1
def tAndD (a b : Dt) : Dt := fun Γ S => (a Γ S).bind fun x S1 => if x then b Γ S1 else .ok false S1
def tOrD (a b : Dt) : Dt := fun Γ S => (a Γ S).bind fun x S1 => if x then .ok true S1 else b Γ S1
def tNotD (a : Dt) : Dt := fun Γ S => (a Γ S).bind fun x S1 => .ok (!x) S1
def eIf (t : Dt) (a b : De) : De := fun Γ S => (t Γ S).bind fun x S1 => if x then a Γ S1 else b Γ S1
def eAnd (a b : De) : De := fun Γ S => (a Γ S).bind fun x S1 => match asB x with | some true => b Γ S1 | some false => .ok (.bl false) S1 | none => .stuck
def eOr (a b : De) : De := fun Γ S => (a Γ S).bind fun x S1 => match asB x with | some true => .ok (.bl true) S1 | some false => b Γ S1 | none => .stuck
def eNot (a : De) : De := fun Γ S => (a Γ S).bind fun x S1 => match asB x with | some b => .ok (.bl (!b)) S1 | none => .stuck
def aNil : Da := fun _ S => .ok [] S
def aCons (a : De) (r : Da) : Da := fun Γ S => (a Γ S).bind fun x S1 => (r Γ S1).bind fun xs S2 => .ok (x :: xs) S2
def eCall (F : List D → List D → Res D) (a : Da) : De := fun Γ S => (a Γ S).bind fun ds S1 => F ds S1
def eTup (a : Da) : De := fun Γ S => (a Γ S).bind fun ds S1 => .ok (.tup ds) S1
def eLst (a : Da) : De := fun Γ S => (a Γ S).bind fun ds S1 => .ok (.lst ds) S1
/-- a list that is kept in the store -/
def eBox (a : De) : De := fun Γ S => (a Γ S).bind fun d S1 => .ok (.ptr S1.length) (S1 ++ [d])

section
variable {X : Cx} {cls : Nat → Addr} {W : WX} {e a b c : Expr} {es : List Expr} {pos : Pos} {δ δa δb δc : De} {τ τa τb : Dt} {α : Da}
theorem de_o (h : DE X cls W e δ) : DO X cls W e δ := PE.weak h fun σ H Q ⟨Γ, S, ρ, G, m, p⟩ => ⟨Γ, S, ρ, G, m, p.conv fun _ _ _ _ _ r => .inl r⟩
theorem df_o (h : DF X cls W e δ) : DO X cls W e δ := PE.weak h fun σ H Q ⟨Γ, S, ρ, G, m, p⟩ => ⟨Γ, S, ρ, G, m, p.conv fun _ _ _ _ _ ⟨a, e, n, _, _, r⟩ => .inr ⟨a, e, n, r⟩⟩
theorem df_e (h : DF X cls W e δ) : DE X cls W e δ := PE.weak h fun σ H Q ⟨Γ, S, ρ, G, m, p⟩ => ⟨Γ, S, ρ, G, m, by
  cases q : δ Γ S with
  | ok d S' =>
    rw [q] at p
    intro v ρ' G' H' m' n' r
    obtain ⟨G2, m2, n2, r2⟩ := RF.settle m n' m' r
    exact p v ρ' G2 H' m2 n2 r2
  | exc x S' => rw [q] at p; exact p
  | stuck => rw [q] at p; exact p⟩

theorem de_v (i : Nat) {x : Str} (hN : X.N[i]? = some x := by rfl) (hv : Vis X.env.scope x := by first | exact Or.inl rfl | exact Or.inr (Or.inl rfl) | exact Or.inr (Or.inr rfl)) (hd : (x == ("__debug__" : Str)) = false := by decide)
    (hcd : (x == ("__classdict__" : Str)) = false := by decide) : DE X cls W (.Name x pos) (eV i) := PE.weak (pv i hN hv hd hcd) fun σ H Q ⟨Γ, S, ρ, G, m, p⟩ => by
  unfold eV at p
  split at p
  · rename_i d hd
    obtain ⟨v, e, r⟩ := m.val i d hd
    exact ⟨v, e, p.at m r⟩
  · exact p.elim
theorem do_v (i : Nat) {x : Str} (hN : X.N[i]? = some x := by rfl) (hv : Vis X.env.scope x := by first | exact Or.inl rfl | exact Or.inr (Or.inl rfl) | exact Or.inr (Or.inr rfl)) (hd : (x == ("__debug__" : Str)) = false := by decide)
    (hcd : (x == ("__classdict__" : Str)) = false := by decide) : DO X cls W (.Name x pos) (oV i) := PE.weak (pv i hN hv hd hcd) fun σ H Q ⟨Γ, S, ρ, G, m, p⟩ => by
  unfold oV at p
  split at p
  · rename_i d hd
    obtain ⟨v, e, r⟩ := m.val i d hd
    exact ⟨v, e, p.at m (.inl r)⟩
  · rename_i d hd
    obtain ⟨a, e, r, _, na⟩ := m.own i d hd
    exact ⟨_, e, p.at m (.inr ⟨a, rfl, na, r⟩)⟩
  · exact p.elim
/-- a constant, or a name of the module -/
theorem de_c {v : V} {d : D} (h : PE X e (tC v)) (r : ∀ ρ G, Rep ⟨X.K, cls⟩ ρ G d v) : DE X cls W e (eC d) := PE.weak h fun σ H Q ⟨Γ, S, ρ, G, m, p⟩ => p.at m (r ρ G)
theorem de_int {i j} : DE X cls W (.Constant (.int i) j pos) (eC (.int i)) := de_c pe_int fun _ _ => by rw [Rep]
theorem de_bl {i j} : DE X cls W (.Constant (.bool i) j pos) (eC (.bl i)) := de_c pe_bl fun _ _ => by rw [Rep]
theorem de_non {j} : DE X cls W (.Constant .none j pos) (eC .non) := de_c pe_non fun _ _ => by rw [Rep]
theorem de_str {x j} : DE X cls W (.Constant (.str x) j pos) (eC (.str x)) := de_c pe_str fun _ _ => by rw [Rep]

/-- what an operation must do -/
def R2Ok (C : Cn) (RV : RVT D V) (R : R2) (f : D → D → Option D) : Prop := ∀ (S : List D) (ρ : List Addr) (G H : Hp) (x y : V) (d dx dy : D) (Q : VK), MemS C S ρ G H → RT C ρ G H dx x → RT C ρ G H dy y → f dx dy = some d →
  (∀ v ρ' G' H', MemS C S ρ' G' H' → Nx ρ G H ρ' G' H' → RV H ρ' G' H' d v → Q v H') → R x y H Q
def R1Ok (C : Cn) (RV : RVT D V) (R : V → Hp → VK → Prop) (f : D → Option D) : Prop := ∀ (S : List D) (ρ : List Addr) (G H : Hp) (x : V) (d dx : D) (Q : VK), MemS C S ρ G H → RT C ρ G H dx x → f dx = some d →
  (∀ v ρ' G' H', MemS C S ρ' G' H' → Nx ρ G H ρ' G' H' → RV H ρ' G' H' d v → Q v H') → R x H Q
theorem ofO_post {C : Cn} {W : WX} {α β : Type} {RV : RVT α β} {Γ : List Sl} {ρ : List Addr} {G H : Hp} {σ : L2.St} {o : Option α} {S : List D} {Q : β → Hp → Prop} (h : Post C W RV Γ ρ G H σ (ofO o S) Q) : ∃ d, o = some d ∧ Post C W RV Γ ρ G H σ (.ok d S) Q := by
  cases o with
  | none => exact h.elim
  | some d => exact ⟨d, rfl, h⟩
theorem x_op {RV : RVT D V} (bk : Back RV) {R : R2} {f : D → D → Option D} (ho : R2Ok ⟨X.K, cls⟩ RV R f) {σ : L2.St} {H : Hp} {Q : VK} (h : tE ⟨X.K, cls⟩ W RV (eOp f δa δb) σ H Q) :
    tE ⟨X.K, cls⟩ W (RO ⟨X.K, cls⟩) δa σ H fun x H1 => tE ⟨X.K, cls⟩ W (RO ⟨X.K, cls⟩) δb σ H1 fun y H2 => R x y H2 Q := by
  obtain ⟨Γ, S, ρ, G, m, p⟩ := h
  refine ⟨Γ, S, ρ, G, m, (Post.seq bk p).mono fun x H1 ⟨dx, S1, ρ1, G1, m1, n1, r1, p1⟩ => ⟨Γ, S1, ρ1, G1, m1, (Post.seq bk p1).mono fun y H2 ⟨dy, S2, ρ2, G2, m2, n2, r2, p2⟩ => ?_⟩⟩
  obtain ⟨d, hd, p3⟩ := ofO_post p2
  exact ho S2 ρ2 G2 H2 x y d _ _ Q m2.toS (m2.read (H0 := H1) (r1.step n2)) (m2.read r2) hd fun v ρ' G' H' m' n' r' => p3.here (m2.step n' m') n' r'
theorem de_op {op : Operator} {R : R2} {f : D → D → Option D} (ho : OpR X (binaryOp op) R) (hf : R2Ok ⟨X.K, cls⟩ (RS ⟨X.K, cls⟩) R f) (ha : DO X cls W a δa) (hb : DO X cls W b δb) : DE X cls W (.BinOp a op b pos) (eOp f δa δb) :=
  PE.weak (pe_op ho ha hb) fun _ _ _ h => x_op back_RS hf h
theorem df_op {op : Operator} {R : R2} {f : D → D → Option D} (ho : OpR X (binaryOp op) R) (hf : R2Ok ⟨X.K, cls⟩ (RF ⟨X.K, cls⟩) R f) (ha : DO X cls W a δa) (hb : DO X cls W b δb) : DF X cls W (.BinOp a op b pos) (eOp f δa δb) :=
  PE.weak (pe_op ho ha hb) fun _ _ _ h => x_op back_RF hf h
theorem de_cmp {op : CmpOp} {R : R2} {f : D → D → Option D} (ho : OpR X (compareOp op) R) (hf : R2Ok ⟨X.K, cls⟩ (RS ⟨X.K, cls⟩) R f) (ha : DO X cls W a δa) (hb : DO X cls W b δb) (hm : behindInMarks op b = false) : DE X cls W (.Compare a [op] [b] pos) (eOp f δa δb) :=
  PE.weak (pe_cmpR ho ha hb hm) fun _ _ _ h => x_op back_RS hf h
theorem dt_cmp {op : CmpOp} {R : R2} {f : D → D → Option D} (ho : OpR X (compareOp op) R) (hf : R2Ok ⟨X.K, cls⟩ (RS ⟨X.K, cls⟩) R f) (ha : DO X cls W a δa) (hb : DO X cls W b δb) (hm : behindInMarks op b = false) : DT X cls W (.Compare a [op] [b] pos) (tB (eOp f δa δb)) :=
  PT.weak (pt_cmpR ho ha hb hm) fun σ H Q ⟨Γ, S, ρ, G, m, p⟩ => by
    refine x_op (W := W) (δa := δa) (δb := δb) (cls := cls) back_RS hf ⟨Γ, S, ρ, G, m, (Post.seq back_RB p).mono fun v H1 ⟨d, S1, ρ1, G1, m1, n1, r1, p1⟩ => ?_⟩
    obtain ⟨k, hk, p2⟩ := ofO_post p1
    cases d <;> try cases hk
    have e : v = .bl k := rep_bl.mp r1
    exact ⟨k, e, p2.at m1 rfl⟩
theorem de_ix {R : R2} {f : D → D → Option D} (ho : IxR X R) (hf : R2Ok ⟨X.K, cls⟩ (RS ⟨X.K, cls⟩) R f) (ha : DO X cls W a δa) (hb : DO X cls W b δb) (hs : PlainIx b := by exact fun _ _ => rfl) : DE X cls W (.Subscript a b pos) (eOp f δa δb) :=
  PE.weak (pe_ix ho ha hb hs) fun _ _ _ h => x_op back_RS hf h
theorem x_un {RV : RVT D V} (bk : Back RV) {R : V → Hp → VK → Prop} {f : D → Option D} (ho : R1Ok ⟨X.K, cls⟩ RV R f) {σ : L2.St} {H : Hp} {Q : VK} (h : tE ⟨X.K, cls⟩ W RV (eUn f δa) σ H Q) :
    tE ⟨X.K, cls⟩ W (RO ⟨X.K, cls⟩) δa σ H fun x H1 => R x H1 Q := by
  obtain ⟨Γ, S, ρ, G, m, p⟩ := h
  refine ⟨Γ, S, ρ, G, m, (Post.seq bk p).mono fun x H1 ⟨dx, S1, ρ1, G1, m1, n1, r1, p1⟩ => ?_⟩
  obtain ⟨d, hd, p3⟩ := ofO_post p1
  exact ho S1 ρ1 G1 H1 x d _ Q m1.toS (m1.read r1) hd fun v ρ' G' H' m' n' r' => p3.here (m1.step n' m') n' r'
theorem de_un {op : UnaryOp} {R : V → Hp → VK → Prop} {f : D → Option D} (ho : UnR X (unaryOp op) R) (hf : R1Ok ⟨X.K, cls⟩ (RS ⟨X.K, cls⟩) R f) (ha : DO X cls W a δa) : DE X cls W (.UnaryOp op a pos) (eUn f δa) :=
  PE.weak (pe_un ho ha) fun _ _ _ h => x_un back_RS hf h
/-- a test that is a value's truth -/
theorem dt_tru (ha : DO X cls W a δa) (he : ∀ whole, isTrue a X.env whole = (do let v ← whole; standAt a.pos; holding [v] (truthy v)) := by intro _; rfl) : DT X cls W a (tTru δa) :=
  PT.weak (pt_truth ha he) fun σ H Q ⟨Γ, S, ρ, G, m, p⟩ => ⟨Γ, S, ρ, G, m, (Post.seq back_RB p).mono fun x H1 ⟨dx, S1, ρ1, G1, m1, n1, r1, p1⟩ => by
    obtain ⟨k, hk, p2⟩ := ofO_post p1
    refine ⟨k, ?_, p2.at m1 rfl⟩
    have rt := m1.read r1
    generalize deref S1 dx = dd at hk rt
    cases dd with
    | non => rw [rt_non] at rt; subst rt; exact (Option.some.inj hk).symm
    | bl b => rw [rt_bl] at rt; subst rt; exact (Option.some.inj hk).symm
    | int b => rw [rt_int] at rt; subst rt; exact (Option.some.inj hk).symm
    | str b =>
      rw [rt_str] at rt; subst rt
      rw [dTruth] at hk
      split at hk
      · rename_i hz; exact ⟨hz, (Option.some.inj hk).symm⟩
      · cases hk
    | lst xs =>
      obtain ⟨p, vs, rfl, h1, h2⟩ := rt
      refine .inl ⟨vs, SqL.of h1, ?_⟩
      rw [← Option.some.inj hk]
      have := h2.length
      cases xs <;> cases vs <;> simp_all
    | tup xs =>
      rw [rt_tup] at rt
      obtain ⟨p, vs, rfl, h1, h2⟩ := rt
      refine .inr (.inl ⟨vs, m1.sub.sqT h1, ?_⟩)
      rw [← Option.some.inj hk]
      have := h2.length
      cases xs <;> cases vs <;> simp_all
    | _ => cases hk⟩
theorem dt_val (ha : DE X cls W a δa) (he : ∀ whole, isTrue a X.env whole = (do let v ← whole; standAt a.pos; holding [v] (truthy v)) := by intro _; rfl) : DT X cls W a (tB δa) :=
  PT.weak (pt_val ha he) fun σ H Q ⟨Γ, S, ρ, G, m, p⟩ => ⟨Γ, S, ρ, G, m, (Post.seq back_RB p).mono fun x H1 ⟨dx, S1, ρ1, G1, m1, n1, r1, p1⟩ => by
    obtain ⟨k, hk, p2⟩ := ofO_post p1
    cases dx <;> try cases hk
    have e : x = .bl k := rep_bl.mp r1
    exact ⟨k, e, p2.at m1 rfl⟩⟩
/-! and, or, not in tests -/
theorem dw_t (h : DW X cls W e τ) : DT X cls W e τ := PW.pt h
theorem dw_and1 (ha : DT X cls W a τ) : DW X cls W (.BoolOp .And [a] pos) τ := pw_and1 ha
theorem dw_or1 (ha : DT X cls W a τ) : DW X cls W (.BoolOp .Or [a] pos) τ := pw_or1 ha
theorem dw_and {rest : List Expr} (ha : DT X cls W a τa) (hb : DW X cls W (.BoolOp .And (b :: rest) pos) τb) : DW X cls W (.BoolOp .And (a :: b :: rest) pos) (tAndD τa τb) :=
  PW.weak (pw_and ha hb) fun σ H Q ⟨Γ, S, ρ, G, m, p⟩ => ⟨Γ, S, ρ, G, m, (Post.seq (RV := RB) back_RB p).mono fun k H1 ⟨k', S1, ρ1, G1, m1, n1, r1, p1⟩ => by
    have e1 : k' = k := r1
    subst e1
    cases k' with
    | true => exact iteT ⟨Γ, S1, ρ1, G1, m1, p1⟩
    | false => exact iteF (p1.at m1 rfl)⟩
theorem dw_or {rest : List Expr} (ha : DT X cls W a τa) (hb : DW X cls W (.BoolOp .Or (b :: rest) pos) τb) : DW X cls W (.BoolOp .Or (a :: b :: rest) pos) (tOrD τa τb) :=
  PW.weak (pw_or ha hb) fun σ H Q ⟨Γ, S, ρ, G, m, p⟩ => ⟨Γ, S, ρ, G, m, (Post.seq (RV := RB) back_RB p).mono fun k H1 ⟨k', S1, ρ1, G1, m1, n1, r1, p1⟩ => by
    have e1 : k' = k := r1
    subst e1
    cases k' with
    | true => exact iteT (p1.at m1 rfl)
    | false => exact iteF ⟨Γ, S1, ρ1, G1, m1, p1⟩⟩
theorem dt_not (ha : DT X cls W a τ) : DT X cls W (.UnaryOp .Not a pos) (tNotD τ) :=
  PT.weak (pt_not ha) fun σ H Q ⟨Γ, S, ρ, G, m, p⟩ => ⟨Γ, S, ρ, G, m, (Post.seq (RV := RB) back_RB p).mono fun k H1 ⟨k', S1, ρ1, G1, m1, n1, r1, p1⟩ => by
    have e1 : k' = k := r1
    subst e1
    exact p1.at m1 rfl⟩
/-! and, or, not as values, of truth values -/
theorem de_one {op} (h : DE X cls W a δ) : DE X cls W (.BoolOp op [a] pos) δ := pe_one h
theorem de_and {rest : List Expr} (ha : DE X cls W a δa) (hb : DE X cls W (.BoolOp .And (b :: rest) pos) δb) : DE X cls W (.BoolOp .And (a :: b :: rest) pos) (eAnd δa δb) :=
  PE.weak (pe_and ha hb) fun σ H Q ⟨Γ, S, ρ, G, m, p⟩ => ⟨Γ, S, ρ, G, m, (Post.seq back_RS p).mono fun x H1 ⟨dx, S1, ρ1, G1, m1, n1, r1, p1⟩ => by
    cases dx with
    | bl k =>
      have e : x = .bl k := rep_bl.mp r1
      refine ⟨k, e, ?_⟩
      cases k with
      | true => exact iteT ⟨Γ, S1, ρ1, G1, m1, p1⟩
      | false => exact iteF (p1.at m1 (rep_bl.mpr rfl))
    | _ => exact p1.elim⟩
theorem de_or {rest : List Expr} (ha : DE X cls W a δa) (hb : DE X cls W (.BoolOp .Or (b :: rest) pos) δb) : DE X cls W (.BoolOp .Or (a :: b :: rest) pos) (eOr δa δb) :=
  PE.weak (pe_or ha hb) fun σ H Q ⟨Γ, S, ρ, G, m, p⟩ => ⟨Γ, S, ρ, G, m, (Post.seq back_RS p).mono fun x H1 ⟨dx, S1, ρ1, G1, m1, n1, r1, p1⟩ => by
    cases dx with
    | bl k =>
      have e : x = .bl k := rep_bl.mp r1
      refine ⟨k, e, ?_⟩
      cases k with
      | true => exact iteT (p1.at m1 (rep_bl.mpr rfl))
      | false => exact iteF ⟨Γ, S1, ρ1, G1, m1, p1⟩
    | _ => exact p1.elim⟩
theorem de_not (ha : DE X cls W a δa) : DE X cls W (.UnaryOp .Not a pos) (eNot δa) :=
  PE.weak (pe_not ha) fun σ H Q ⟨Γ, S, ρ, G, m, p⟩ => ⟨Γ, S, ρ, G, m, (Post.seq back_RS p).mono fun x H1 ⟨dx, S1, ρ1, G1, m1, n1, r1, p1⟩ => by
    cases dx with
    | bl k =>
      have e : x = .bl k := rep_bl.mp r1
      exact ⟨k, e, p1.at m1 (rep_bl.mpr rfl)⟩
    | _ => exact p1.elim⟩
theorem de_if (hc : DT X cls W c τ) (ha : DE X cls W a δa) (hb : DE X cls W b δb) : DE X cls W (.IfExp c a b pos) (eIf τ δa δb) :=
  PE.weak (pe_ifExp hc ha hb) fun σ H Q ⟨Γ, S, ρ, G, m, p⟩ => ⟨Γ, S, ρ, G, m, (Post.seq (RV := RB) back_RS p).mono fun k H1 ⟨k', S1, ρ1, G1, m1, n1, r1, p1⟩ => by
    have e1 : k' = k := r1
    subst e1
    cases k' with
    | true => exact iteT ⟨Γ, S1, ρ1, G1, m1, p1⟩
    | false => exact iteF ⟨Γ, S1, ρ1, G1, m1, p1⟩⟩
/-! arguments, displays -/
theorem da_nil : DA X cls W [] aNil := PA.weak pa_nil fun σ H Q ⟨Γ, S, ρ, G, m, p⟩ => p.at m Reps.nil
theorem da_cons (ha : DE X cls W e δ) (hr : DA X cls W es α) (hs : starEach (e :: es) X.env = (false, eval e X.env) :: starEach es X.env := by rfl) : DA X cls W (e :: es) (aCons δ α) :=
  PA.weak (pa_cons ha hr hs) fun σ H Q ⟨Γ, S, ρ, G, m, p⟩ => ⟨Γ, S, ρ, G, m, (Post.seq back_RA p).mono fun x H1 ⟨dx, S1, ρ1, G1, m1, n1, r1, p1⟩ => ⟨Γ, S1, ρ1, G1, m1, (Post.seq back_RA p1).mono fun xs H2 ⟨ds, S2, ρ2, G2, m2, n2, r2, p2⟩ =>
    p2.at m2 (Reps.cons (r1.mono n2.ext n2.pre) r2)⟩⟩
theorem da_len : ∀ {es : List Expr} {α : Da}, True := fun {_ _} => trivial
theorem x_new {C : Cn} {Γ : List Sl} {S : List D} {ρ : List Addr} {G H : Hp} {σ : L2.St} (m : Mem C Γ S ρ G H σ) {ds : List D} {vs : List V} (r : Reps C ρ G ds vs) {p : Addr} (hp : H p = none) :
    Mem C Γ S ρ G (upd H p (.lst vs)) σ ∧ Nx ρ G H ρ G (upd H p (.lst vs)) ∧ RF C H ρ G (upd H p (.lst vs)) (.lst ds) (V.ref p) := by
  obtain ⟨m', n', np, gp⟩ := m.new (o := .lst vs) hp
  exact ⟨m', n', p, rfl, np, hp, gp, vs, upd_same, r⟩
theorem x_newT {C : Cn} {Γ : List Sl} {S : List D} {ρ : List Addr} {G H : Hp} {σ : L2.St} (m : Mem C Γ S ρ G H σ) {ds : List D} {vs : List V} (r : Reps C ρ G ds vs) {p : Addr} {ob : Obj} (hp : H p = none) (hd : ob.dict = none) :
    ∃ G', Mem C Γ S ρ G' (upd H p (.frz ob (.tup vs))) σ ∧ Nx ρ G H ρ G' (upd H p (.frz ob (.tup vs))) ∧ Rep C ρ G' (.tup ds) (V.ref p) := by
  obtain ⟨m', n', np, gp⟩ := m.new (o := .frz ob (.tup vs)) hp
  obtain ⟨m2, n2, k⟩ := Mem.settle m n' m' hp gp np upd_same ⟨fun _ z => (nomatch z), fun _ z => (nomatch z)⟩
  exact ⟨_, m2, n2, by rw [Rep]; exact ⟨p, vs, rfl, SqX.of hd upd_same, Reps.mono k (List.prefix_refl _) _ _ r⟩⟩
theorem df_lst (h : DA X cls W es α) (hl : ∀ Γ S ds S', α Γ S = .ok ds S' → ds.length ≤ sizeLine) : DF X cls W (.List es pos) (eLst α) :=
  PE.weak (pe_lst h) fun σ H Q ⟨Γ, S, ρ, G, m, p⟩ => ⟨Γ, S, ρ, G, m, by
    unfold eLst at p
    cases q : α Γ S with
    | ok ds S1 =>
      rw [q] at p
      intro vs ρ1 G1 H1 m1 n1 r1
      refine ⟨by rw [← r1.length]; exact hl _ _ _ _ q, fun l hlp => ?_⟩
      obtain ⟨m2, n2, r2⟩ := x_new m1 r1 hlp
      exact p _ _ _ _ m2 (n1.trans n2) (back_RF _ _ _ _ _ _ _ n1.live r2)
    | exc x S1 => rw [q] at p; exact p
    | stuck => rw [q] at p; exact p⟩
theorem de_tup {x1} (h : DA X cls W es α) (hl : ∀ Γ S ds S', α Γ S = .ok ds S' → ds.length ≤ sizeLine) : DE X cls W (.Tuple es x1 pos) (eTup α) :=
  PE.weak (pe_tupX h) fun σ H Q ⟨Γ, S, ρ, G, m, p⟩ => ⟨Γ, S, ρ, G, m, by
    unfold eTup at p
    cases q : α Γ S with
    | ok ds S1 =>
      rw [q] at p
      intro vs ρ1 G1 H1 m1 n1 r1
      refine ⟨by rw [← r1.length]; exact hl _ _ _ _ q, fun l ob hlp hd => ?_⟩
      obtain ⟨G2, m2, n2, r2⟩ := x_newT m1 r1 hlp hd
      exact p _ _ _ _ m2 (n1.trans n2) r2
    | exc x S1 => rw [q] at p; exact p
    | stuck => rw [q] at p; exact p⟩
/-- the number of written arguments -/
inductive ALen : Da → Nat → Prop
  | nil : ALen aNil 0
  | cons {δ : De} {α : Da} {n : Nat} (h : ALen α n) : ALen (aCons δ α) (n + 1)
theorem ALen.le {α : Da} {n : Nat} (h : ALen α n) : ∀ Γ S ds S', α Γ S = .ok ds S' → ds.length = n := by
  induction h with
  | nil => intro Γ S ds S' e; cases e; rfl
  | @cons δ α n h ih =>
    intro Γ S ds S' e
    unfold aCons at e
    cases q : δ Γ S with
    | ok d S1 =>
      rw [q] at e
      cases q2 : α Γ S1 with
      | ok ds2 S2 =>
        simp only [Res.bind_ok, q2] at e
        cases e
        rw [List.length_cons, ih _ _ _ _ q2]
      | exc _ _ => simp only [Res.bind_ok, q2] at e; cases e
      | stuck => simp only [Res.bind_ok, q2] at e; cases e
    | exc _ _ => rw [q] at e; cases e
    | stuck => rw [q] at e; cases e
theorem ALen.line {α : Da} {n : Nat} (h : ALen α n) (hn : n ≤ 1000) : ∀ Γ S ds S', α Γ S = .ok ds S' → ds.length ≤ sizeLine := fun Γ S ds S' e => by
  rw [h.le _ _ _ _ e]; exact Nat.le_of_lt (small1000 hn)
end
end DL

namespace DL
open PySem L2

theorem R2Ok.or {C : Cn} {RV : RVT D V} {R R' : R2} {f f' g : D → D → Option D} (h : R2Ok C RV R f) (h' : R2Ok C RV R' f') (hg : ∀ a b d, g a b = some d → f a b = some d ∨ f' a b = some d) :
    R2Ok C RV (fun x y H Q => R x y H Q ∨ R' x y H Q) g := fun S ρ G H x y d dx dy Q m rx ry e q => by
  rcases hg _ _ _ e with e | e
  · exact .inl (h S ρ G H x y d dx dy Q m rx ry e q)
  · exact .inr (h' S ρ G H x y d dx dy Q m rx ry e q)

section
variable {X : Cx} {cls : Nat → Addr} {C : Cn}
/-! ### ints -/
def onI (P : Int → Int → Bool) (g : Int → Int → Int) : D → D → Option D
  | .int i, .int j => if P i j then some (.int (g i j)) else none
  | _, _ => none
theorem ok_I {Pr : Int → Int → Prop} {P : Int → Int → Bool} {g : Int → Int → Int} (h : ∀ i j, P i j = true → Pr i j) : R2Ok C (RS C) (rI Pr fun i j => .int (g i j)) (onI P g) := fun S ρ G H x y d dx dy Q m rx ry e q => by
  cases dx <;> try cases e
  rename_i i
  cases dy <;> try cases e
  rename_i j
  rw [rt_int] at rx ry
  subst rx ry
  simp only [onI] at e
  split at e
  · rename_i hp
    cases e
    exact ⟨i, j, rfl, rfl, h i j hp, q _ _ _ _ m .refl (rep_int.mpr rfl)⟩
  · cases e
theorem ok_I0 {g : Int → Int → Int} : R2Ok C (RS C) (rI0 fun i j => .int (g i j)) (onI (fun _ _ => true) g) := fun S ρ G H x y d dx dy Q m rx ry e q => by
  cases dx <;> try cases e
  rename_i i
  cases dy <;> try cases e
  rename_i j
  rw [rt_int] at rx ry
  subst rx ry
  exact ⟨i, j, rfl, rfl, q _ _ _ _ m .refl (rep_int.mpr rfl)⟩
/-! ### texts, lists, tuples put together -/
def onS : D → D → Option D
  | .str a, .str b => if a.length + b.length ≤ sizeLine then some (.str (a ++ b)) else none
  | _, _ => none
theorem ok_S : R2Ok C (RS C) (fun x y H Q => ∃ i j, x = .str i ∧ y = .str j ∧ i.length + j.length ≤ sizeLine ∧ Q (.str (i ++ j)) H) onS := fun S ρ G H x y d dx dy Q m rx ry e q => by
  cases dx <;> try cases e
  rename_i i
  cases dy <;> try cases e
  rename_i j
  rw [rt_str] at rx ry
  subst rx ry
  simp only [onS] at e
  split at e
  · rename_i hp
    cases e
    exact ⟨i, j, rfl, rfl, hp, q _ _ _ _ m .refl (rep_str.mpr rfl)⟩
  · cases e
def onL : D → D → Option D
  | .lst a, .lst b => if a.length + b.length ≤ sizeLine then some (.lst (a ++ b)) else none
  | _, _ => none
theorem ok_LF : R2Ok C (RF C) rCat onL := fun S ρ G H x y d dx dy Q m rx ry e q => by
  cases dx <;> try cases e
  rename_i xs
  cases dy <;> try cases e
  rename_i ys
  obtain ⟨a, vs, rfl, h1, r1⟩ := rx
  obtain ⟨b, ws, rfl, h2, r2⟩ := ry
  simp only [onL] at e
  split at e
  · rename_i hp
    cases e
    refine ⟨a, b, vs, ws, rfl, rfl, h1, h2, by rw [← r1.length, ← r2.length]; exact hp, fun p hp => ?_⟩
    obtain ⟨m2, n2, r⟩ := x_new m (r1.append r2) hp
    exact q _ _ _ _ m2 n2 r
  · cases e
theorem rf_rs {R : R2} {f : D → D → Option D} (h : R2Ok C (RF C) R f) : R2Ok C (RS C) R f := fun S ρ G H x y d dx dy Q m rx ry e q =>
  h S ρ G H x y d dx dy Q m rx ry e fun v ρ' G' H' m' n' r => by
    obtain ⟨G2, m2, n2, r2⟩ := RF.settle m n' m' r
    exact q _ _ _ _ m2 n2 r2
theorem rf_rs1 {R : V → Hp → VK → Prop} {f : D → Option D} (h : R1Ok C (RF C) R f) : R1Ok C (RS C) R f := fun S ρ G H x d dx Q m rx e q =>
  h S ρ G H x d dx Q m rx e fun v ρ' G' H' m' n' r => by
    obtain ⟨G2, m2, n2, r2⟩ := RF.settle m n' m' r
    exact q _ _ _ _ m2 n2 r2
def onT : D → D → Option D
  | .tup a, .tup b => if a.length + b.length ≤ sizeLine then some (.tup (a ++ b)) else none
  | _, _ => none
theorem ok_T : R2Ok C (RS C) (rCatX C.K) onT := fun S ρ G H x y d dx dy Q m rx ry e q => by
  cases dx <;> try cases e
  rename_i xs
  cases dy <;> try cases e
  rename_i ys
  rw [rt_tup] at rx ry
  obtain ⟨a, vs, rfl, h1, r1⟩ := rx
  obtain ⟨b, ws, rfl, h2, r2⟩ := ry
  simp only [onT] at e
  split at e
  · rename_i hp
    cases e
    refine ⟨a, b, vs, ws, rfl, rfl, m.sub.sqT h1, m.sub.sqT h2, by rw [← r1.length, ← r2.length]; exact hp, fun e0 => ?_, fun _ e0 => ?_, fun _ _ p ob hp hd => ?_⟩
    · subst e0
      have z := r1.length
      cases xs with
      | nil => exact q _ _ _ _ m .refl (rep_tup.mpr ⟨b, ws, rfl, h2, r2⟩)
      | cons _ _ => cases z
    · subst e0
      have z := r2.length
      cases ys with
      | nil => rw [List.append_nil] at q; exact q _ _ _ _ m .refl (rep_tup.mpr ⟨a, vs, rfl, h1, r1⟩)
      | cons _ _ => cases z
    · obtain ⟨G2, m2, n2, r⟩ := x_newT m (r1.append r2) hp hd
      exact q _ _ _ _ m2 n2 r
  · cases e
theorem dAdd_cases (a b d : D) (h : dAdd a b = some d) : onI (fun _ _ => true) (fun i j => i + j) a b = some d ∨ onS a b = some d ∨ onL a b = some d ∨ onT a b = some d := by
  cases a <;> cases b <;> first | exact .inl h | exact .inr (.inl h) | exact .inr (.inr (.inl h)) | exact .inr (.inr (.inr h)) | cases h
theorem de_add {W : WX} {a b : Expr} {pos : Pos} {δa δb : De} (ha : DO X cls W a δa) (hb : DO X cls W b δb) : DE X cls W (.BinOp a .Add b pos) (eOp dAdd δa δb) :=
  de_op (op_add.or (op_add_str.or (op_cat.or op_catX))) (ok_I0.or (g := dAdd) (f' := fun a b => if (onS a b).isSome then onS a b else if (onL a b).isSome then onL a b else onT a b) (ok_S.or (f' := fun a b => if (onL a b).isSome then onL a b else onT a b) ((rf_rs ok_LF).or (f' := onT) ok_T (fun a b d h => by
      by_cases z : (onL a b).isSome
      · rw [if_pos z] at h; exact .inl h
      · rw [if_neg z] at h; exact .inr h)) (fun a b d h => by
      by_cases z : (onS a b).isSome
      · rw [if_pos z] at h; exact .inl h
      · rw [if_neg z] at h; exact .inr h)) (fun a b d h => by
      rcases dAdd_cases a b d h with h | h | h | h
      · exact .inl h
      · exact .inr (by rw [h]; rfl)
      · exact .inr (by cases a <;> cases b <;> first | cases h | (show (if (Option.isSome none) = true then _ else if (onL _ _).isSome = true then _ else _) = _; rw [h]; rfl))
      · exact .inr (by cases a <;> cases b <;> first | cases h | (show (if (Option.isSome none) = true then _ else if (Option.isSome none) = true then _ else _) = _; exact h)))) ha hb
theorem df_cat {W : WX} {a b : Expr} {pos : Pos} {δa δb : De} (ha : DO X cls W a δa) (hb : DO X cls W b δb) : DF X cls W (.BinOp a .Add b pos) (eOp onL δa δb) := df_op op_cat ok_LF ha hb
theorem de_sub {W : WX} {a b : Expr} {pos : Pos} {δa δb : De} (ha : DO X cls W a δa) (hb : DO X cls W b δb) : DE X cls W (.BinOp a .Sub b pos) (eOp (onI (fun _ _ => true) fun i j => i - j) δa δb) := de_op op_sub ok_I0 ha hb
abbrev fDiv : D → D → Option D := onI (fun _ j => decide (0 < j ∧ j < 1073741824)) fun i j => i / j
abbrev fMod : D → D → Option D := onI (fun _ j => decide (0 < j)) fun i j => i % j
def fPow : D → D → Option D := onI (fun i j => decide (0 ≤ j ∧ j ≤ 1000000 ∧ i.natAbs < 2 ^ 64)) fun i j => i ^ j.toNat
def P18 : Int := 10 ^ 18
theorem fPow_18 : fPow (.int 10) (.int 18) = some (.int P18) := rfl
abbrev fMulI : D → D → Option D := onI (fun i j => decide (mulOk i j)) fun i j => i * j
abbrev fSub : D → D → Option D := onI (fun _ _ => true) fun i j => i - j
theorem de_div {W : WX} {a b : Expr} {pos : Pos} {δa δb : De} (ha : DO X cls W a δa) (hb : DO X cls W b δb) : DE X cls W (.BinOp a .FloorDiv b pos) (eOp fDiv δa δb) := de_op op_fdiv (ok_I fun i j h => of_decide_eq_true (p := 0 < j ∧ j < 1073741824) h) ha hb
theorem de_mod {W : WX} {a b : Expr} {pos : Pos} {δa δb : De} (ha : DO X cls W a δa) (hb : DO X cls W b δb) : DE X cls W (.BinOp a .Mod b pos) (eOp fMod δa δb) := de_op op_mod (ok_I fun i j h => of_decide_eq_true h) ha hb
theorem de_pow {W : WX} {a b : Expr} {pos : Pos} {δa δb : De} (ha : DO X cls W a δa) (hb : DO X cls W b δb) : DE X cls W (.BinOp a .Pow b pos) (eOp fPow δa δb) := de_op op_pow (ok_I fun i j h => of_decide_eq_true (p := 0 ≤ j ∧ j ≤ 1000000 ∧ i.natAbs < 2 ^ 64) h) ha hb
/-! ### times -/
def onLM : D → D → Option D
  | .lst xs, .int k => if -(2 ^ 63) ≤ k ∧ k < 2 ^ 63 ∧ xs.length * k.toNat ≤ sizeLine then some (.lst (List.replicate k.toNat xs).flatten) else none
  | _, _ => none
theorem ok_LM : R2Ok C (RF C) rRep onLM := fun S ρ G H x y d dx dy Q m rx ry e q => by
  cases dx <;> try cases e
  rename_i xs
  cases dy <;> try cases e
  rename_i k
  obtain ⟨a, vs, rfl, h1, r1⟩ := rx
  rw [rt_int] at ry
  subst ry
  simp only [onLM] at e
  split at e
  · rename_i hp
    cases e
    refine ⟨a, k, vs, rfl, rfl, h1, hp.1, hp.2.1, by rw [← r1.length]; exact hp.2.2, fun p hp => ?_⟩
    obtain ⟨m2, n2, r⟩ := x_new m (r1.rep _) hp
    exact q _ _ _ _ m2 n2 r
  · cases e
end
end DL

namespace DL
open PySem PySem.Spec PyProof.Rows L2

section
variable {X : Cx} {cls : Nat → Addr} {C : Cn} {W : WX} {a b c e : Expr} {pos : Pos} {δa δb δc δ : De}
/-- == of data, one of which is flat enough -/
def rEqW (K : PySem.W.Frag) : R2 := fun x y H Q => ∃ p q, Dp K H x p ∧ Dp K H y q ∧ p.canLay0 = true ∧ q.canLay0 = true ∧ min p.depth q.depth ≤ 64 ∧ Q (.bl (PyData.eqv p q)) H
def rNeW (K : PySem.W.Frag) : R2 := fun x y H Q => ∃ p q, Dp K H x p ∧ Dp K H y q ∧ p.canLay0 = true ∧ q.canLay0 = true ∧ min p.depth q.depth ≤ 64 ∧ Q (.bl (!PyData.eqv p q)) H
theorem op_eqW (hu : X.A.units + 64 < cLine) : OpR X (compareOp .Eq) (rEqW X.K) := fun pins s σ H x y v u Q I rx ry ⟨p, q, hp, hq, lp, lq, m, k⟩ => by
  obtain ⟨as, r1⟩ := Dp.reads I p x v hp rx
  obtain ⟨bs, r2⟩ := Dp.reads I q y u hq ry
  exact SeqAt.compareEq_reads r1 r2 lp lq (by omega) ⟨.bl _, H, I, rfl, k⟩
theorem op_neW (hu : X.A.units + 64 < cLine) : OpR X (compareOp .NotEq) (rNeW X.K) := fun pins s σ H x y v u Q I rx ry ⟨p, q, hp, hq, lp, lq, m, k⟩ => by
  obtain ⟨as, r1⟩ := Dp.reads I p x v hp rx
  obtain ⟨bs, r2⟩ := Dp.reads I q y u hq ry
  exact SeqAt.compareNe_reads r1 r2 lp lq (by omega) ⟨.bl _, H, I, rfl, k⟩
/-- a comparison's answer is a truth value -/
theorem ok_B {R : R2} {f : D → D → Option D} {g : D → D → Option Bool} (hg : ∀ x y, f x y = (g x y).map D.bl)
    (h : ∀ (S : List D) ρ G H x y dx dy k (Q : VK), MemS C S ρ G H → RT C ρ G H dx x → RT C ρ G H dy y → g dx dy = some k → Q (.bl k) H → R x y H Q) : R2Ok C (RS C) R f := fun S ρ G H x y d dx dy Q m rx ry e q => by
  rw [hg] at e
  cases z : g dx dy with
  | none => rw [z] at e; cases e
  | some k =>
    rw [z] at e; cases e
    exact h S ρ G H x y dx dy k Q m rx ry z (q _ _ _ _ m .refl (rep_bl.mpr rfl))
theorem ok_eq : R2Ok C (RS C) (fun x y H Q => rEqW C.K x y H Q ∨ rEq x y H Q) cEq := ok_B (g := dEq) (fun _ _ => rfl) fun S ρ G H x y dx dy k Q m rx ry e q => by
  rcases dEq_cases dx dy with ⟨a, b, rfl, rfl, z⟩ | z
  · rw [z] at e; cases e
    rw [rt_str] at rx ry; subst rx; subst ry
    exact .inr ⟨rfl, by have w : decide (V.str a = V.str b) = (a == b) := by { rw [Bool.eq_iff_iff]; simp }; rw [w]; exact q⟩
  · rw [z] at e
    unfold dEqP at e
    split at e
    · rename_i p1 p2 h1 h2
      split at e
      · rename_i hs
        cases e
        exact .inl ⟨p1, p2, dp_rt m.sub rx h1, dp_rt m.sub ry h2, hs.1, hs.2.1, hs.2.2, q⟩
      · cases e
    · cases e
theorem ok_ne : R2Ok C (RS C) (fun x y H Q => rNeW C.K x y H Q ∨ rNe x y H Q) cNe := ok_B (g := fun a b => (dEq a b).map not) (fun a b => by unfold cNe; cases dEq a b <;> rfl) fun S ρ G H x y dx dy k Q m rx ry e q => by
  rcases dEq_cases dx dy with ⟨a, b, rfl, rfl, z⟩ | z
  · rw [z] at e; cases e
    rw [rt_str] at rx ry; subst rx; subst ry
    exact .inr ⟨rfl, by have w : decide (V.str a = V.str b) = (a == b) := by { rw [Bool.eq_iff_iff]; simp }; rw [w]; exact q⟩
  · rw [z] at e
    unfold dEqP at e
    split at e
    · rename_i p1 p2 h1 h2
      split at e
      · rename_i hs
        cases e
        exact .inl ⟨p1, p2, dp_rt m.sub rx h1, dp_rt m.sub ry h2, hs.1, hs.2.1, hs.2.2, q⟩
      · cases e
    · cases e
theorem dt_eq (hu : X.A.units + 64 < cLine) (ha : DO X cls W a δa) (hb : DO X cls W b δb) : DT X cls W (.Compare a [.Eq] [b] pos) (tB (eOp cEq δa δb)) := dt_cmp ((op_eqW hu).or op_eq) ok_eq ha hb (nomark _)
theorem dt_ne (hu : X.A.units + 64 < cLine) (ha : DO X cls W a δa) (hb : DO X cls W b δb) : DT X cls W (.Compare a [.NotEq] [b] pos) (tB (eOp cNe δa δb)) := dt_cmp ((op_neW hu).or op_ne) ok_ne ha hb (nomark _)
theorem de_eq (hu : X.A.units + 64 < cLine) (ha : DO X cls W a δa) (hb : DO X cls W b δb) : DE X cls W (.Compare a [.Eq] [b] pos) (eOp cEq δa δb) := de_cmp ((op_eqW hu).or op_eq) ok_eq ha hb (nomark _)
theorem de_ne (hu : X.A.units + 64 < cLine) (ha : DO X cls W a δa) (hb : DO X cls W b δb) : DE X cls W (.Compare a [.NotEq] [b] pos) (eOp cNe δa δb) := de_cmp ((op_neW hu).or op_ne) ok_ne ha hb (nomark _)
/-! order -/
def rOrd (p : Int → Int → Bool) (q : Str → Str → Bool) : R2 := fun x y H Q => (∃ i j, x = .int i ∧ y = .int j ∧ Q (.bl (p i j)) H) ∨ ∃ i j, x = .str i ∧ y = .str j ∧ Q (.bl (q i j)) H
def dOrd (p : Int → Int → Bool) (q : Str → Str → Bool) : D → D → Option D
  | .int i, .int j => some (.bl (p i j))
  | .str i, .str j => some (.bl (q i j))
  | _, _ => none
theorem ok_ord {p : Int → Int → Bool} {q : Str → Str → Bool} : R2Ok C (RS C) (rOrd p q) (dOrd p q) := fun S ρ G H x y d dx dy Q m rx ry e k => by
  cases dx <;> try cases e
  · rename_i i
    cases dy <;> try cases e
    rename_i j
    rw [rt_int] at rx ry
    exact .inl ⟨i, j, rx, ry, k _ _ _ _ m .refl (rep_bl.mpr rfl)⟩
  · rename_i i
    cases dy <;> try cases e
    rename_i j
    rw [rt_str] at rx ry
    exact .inr ⟨i, j, rx, ry, k _ _ _ _ m .refl (rep_bl.mpr rfl)⟩
abbrev oLt : D → D → Option D := dOrd (fun i j => decide (i < j)) fun i j => decide (i.cps.toList < j.cps.toList)
abbrev oLe : D → D → Option D := dOrd (fun i j => decide (i ≤ j)) fun i j => !decide (j.cps.toList < i.cps.toList)
abbrev oGt : D → D → Option D := dOrd (fun i j => decide (j < i)) fun i j => decide (j.cps.toList < i.cps.toList)
abbrev oGe : D → D → Option D := dOrd (fun i j => decide (j ≤ i)) fun i j => !decide (i.cps.toList < j.cps.toList)
theorem or_lt : OpR X (compareOp .Lt) (rOrd (fun i j => decide (i < j)) fun i j => decide (i.cps.toList < j.cps.toList)) := op_lt.or op_lt_str
theorem or_le : OpR X (compareOp .LtE) (rOrd (fun i j => decide (i ≤ j)) fun i j => !decide (j.cps.toList < i.cps.toList)) := op_le.or op_le_str
theorem or_gt : OpR X (compareOp .Gt) (rOrd (fun i j => decide (j < i)) fun i j => decide (j.cps.toList < i.cps.toList)) := op_gt.or op_gt_str
theorem or_ge : OpR X (compareOp .GtE) (rOrd (fun i j => decide (j ≤ i)) fun i j => !decide (i.cps.toList < j.cps.toList)) := op_ge.or op_ge_str
theorem dt_lt (ha : DO X cls W a δa) (hb : DO X cls W b δb) : DT X cls W (.Compare a [.Lt] [b] pos) (tB (eOp oLt δa δb)) := dt_cmp or_lt ok_ord ha hb (nomark _)
theorem dt_le (ha : DO X cls W a δa) (hb : DO X cls W b δb) : DT X cls W (.Compare a [.LtE] [b] pos) (tB (eOp oLe δa δb)) := dt_cmp or_le ok_ord ha hb (nomark _)
theorem dt_gt (ha : DO X cls W a δa) (hb : DO X cls W b δb) : DT X cls W (.Compare a [.Gt] [b] pos) (tB (eOp oGt δa δb)) := dt_cmp or_gt ok_ord ha hb (nomark _)
theorem dt_ge (ha : DO X cls W a δa) (hb : DO X cls W b δb) : DT X cls W (.Compare a [.GtE] [b] pos) (tB (eOp oGe δa δb)) := dt_cmp or_ge ok_ord ha hb (nomark _)
theorem de_lt (ha : DO X cls W a δa) (hb : DO X cls W b δb) : DE X cls W (.Compare a [.Lt] [b] pos) (eOp oLt δa δb) := de_cmp or_lt ok_ord ha hb (nomark _)
theorem de_le (ha : DO X cls W a δa) (hb : DO X cls W b δb) : DE X cls W (.Compare a [.LtE] [b] pos) (eOp oLe δa δb) := de_cmp or_le ok_ord ha hb (nomark _)
theorem de_gt (ha : DO X cls W a δa) (hb : DO X cls W b δb) : DE X cls W (.Compare a [.Gt] [b] pos) (eOp oGt δa δb) := de_cmp or_gt ok_ord ha hb (nomark _)
theorem de_ge (ha : DO X cls W a δa) (hb : DO X cls W b δb) : DE X cls W (.Compare a [.GtE] [b] pos) (eOp oGe δa δb) := de_cmp or_ge ok_ord ha hb (nomark _)
/-- a ≤ b ≤ c -/
def eChain (f g : D → D → Option D) (a b c : De) : De := fun Γ S => (a Γ S).bind fun x S1 => (b Γ S1).bind fun y S2 => (ofO (f (deref S2 x) (deref S2 y)) S2).bind fun k S3 => match asB k with
  | some true => (c Γ S3).bind fun z S4 => ofO (g (deref S4 y) (deref S4 z)) S4
  | some false => .ok (.bl false) S3
  | none => .stuck
/-! is None -/
theorem rep_isNon {ρ : List Addr} {G : Hp} : ∀ {d : D} {v : V}, Rep C ρ G d v → decide (v = .non) = isNon d := fun {d v} h => by
  cases d <;> rw [Rep] at h
  · subst h; rfl
  · subst h; rfl
  · subst h; rfl
  · subst h; rfl
  · obtain ⟨_, _, rfl, _⟩ := h; rfl
  · obtain ⟨_, _, rfl, _⟩ := h; rfl
  · obtain ⟨_, _, rfl, _⟩ := h; rfl
  · obtain ⟨_, _, _, rfl, _⟩ := h; rfl
  · obtain ⟨_, _, rfl⟩ := h; rfl
  · obtain ⟨_, rfl, _⟩ := h; rfl
  · obtain ⟨_, _, _, rfl, _⟩ := h; rfl
theorem rt_isNon {ρ : List Addr} {G H : Hp} {d : D} {v : V} (h : RT C ρ G H d v) : decide (v = .non) = isNon d := by
  cases d with
  | lst _ => obtain ⟨_, _, rfl, _⟩ := h; rfl
  | dct _ _ => obtain ⟨_, _, rfl, _⟩ := h; rfl
  | ins _ _ _ => obtain ⟨_, _, _, rfl, _⟩ := h; rfl
  | _ => exact rep_isNon (C := C) (ρ := ρ) (G := G) h
theorem ok_isN : R2Ok C (RS C) (fun x y H Q => y = .non ∧ Q (.bl (decide (x = .non))) H) cIs := fun S ρ G H x y d dx dy Q m rx ry e q => by
  have hy : dy = .non := by cases dy <;> first | rfl | (cases dx <;> cases e)
  subst hy
  rw [rt_non] at ry
  replace e : some (D.bl (isNon dx)) = some d := by cases dx <;> exact e
  cases e
  exact ⟨ry, by rw [rt_isNon rx]; exact q _ _ _ _ m .refl (rep_bl.mpr rfl)⟩
theorem ok_notN : R2Ok C (RS C) (fun x y H Q => y = .non ∧ Q (.bl (!decide (x = .non))) H) cIsNot := fun S ρ G H x y d dx dy Q m rx ry e q => by
  have hy : dy = .non := by cases dy <;> first | rfl | (cases dx <;> cases e)
  subst hy
  rw [rt_non] at ry
  replace e : some (D.bl (!isNon dx)) = some d := by cases dx <;> exact e
  cases e
  exact ⟨ry, by rw [rt_isNon rx]; exact q _ _ _ _ m .refl (rep_bl.mpr rfl)⟩
theorem dt_isN (ha : DO X cls W a δa) (hb : DO X cls W b δb) : DT X cls W (.Compare a [.Is] [b] pos) (tB (eOp cIs δa δb)) := dt_cmp op_isN ok_isN ha hb (nomark _)
theorem dt_notN (ha : DO X cls W a δa) (hb : DO X cls W b δb) : DT X cls W (.Compare a [.IsNot] [b] pos) (tB (eOp cIsNot δa δb)) := dt_cmp op_notN ok_notN ha hb (nomark _)
theorem de_isN (ha : DO X cls W a δa) (hb : DO X cls W b δb) : DE X cls W (.Compare a [.Is] [b] pos) (eOp cIs δa δb) := de_cmp op_isN ok_isN ha hb (nomark _)
theorem de_notN (ha : DO X cls W a δa) (hb : DO X cls W b δb) : DE X cls W (.Compare a [.IsNot] [b] pos) (eOp cIsNot δa δb) := de_cmp op_notN ok_notN ha hb (nomark _)
/-! in -/
theorem rep_flat {ρ : List Addr} {G : Hp} {d : D} {v : V} (f : flatD d = true) (h : Rep C ρ G d v) : flatV v = true ∧ (d = .non ∧ v = .non ∨ (∃ b, d = .bl b ∧ v = .bl b) ∨ (∃ i, d = .int i ∧ v = .int i) ∨ ∃ x, d = .str x ∧ v = .str x) := by
  cases d <;> try cases f
  · rw [rep_non] at h; subst h; exact ⟨rfl, .inl ⟨rfl, rfl⟩⟩
  · rw [rep_bl] at h; subst h; exact ⟨rfl, .inr (.inl ⟨_, rfl, rfl⟩)⟩
  · rw [rep_int] at h; subst h; exact ⟨rfl, .inr (.inr (.inl ⟨_, rfl, rfl⟩))⟩
  · rw [rep_str] at h; subst h; exact ⟨rfl, .inr (.inr (.inr ⟨_, rfl, rfl⟩))⟩
theorem eqV_D {ρ : List Addr} {G : Hp} {d1 d2 : D} {v1 v2 : V} (f1 : flatD d1 = true) (f2 : flatD d2 = true) (h1 : Rep C ρ G d1 v1) (h2 : Rep C ρ G d2 v2) : eqV v1 v2 = eqF d1 d2 := by
  obtain ⟨_, h1⟩ := rep_flat f1 h1
  obtain ⟨_, h2⟩ := rep_flat f2 h2
  rcases h1 with ⟨rfl, rfl⟩ | ⟨_, rfl, rfl⟩ | ⟨_, rfl, rfl⟩ | ⟨_, rfl, rfl⟩ <;> rcases h2 with ⟨rfl, rfl⟩ | ⟨_, rfl, rfl⟩ | ⟨_, rfl, rfl⟩ | ⟨_, rfl, rfl⟩ <;> first | rfl | (unfold eqV eqF; simp) | (unfold eqV eqF; rfl)
theorem reps_flat {ρ : List Addr} {G : Hp} : ∀ {ds : List D} {vs : List V}, Reps C ρ G ds vs → ds.all flatD = true → vs.all flatV = true
  | [], _, h, _ => by rw [h.inv0]; rfl
  | d :: ds, _, h, f => by
    obtain ⟨v, r, rfl, h1, h2⟩ := h.inv
    rw [List.all_cons, Bool.and_eq_true] at f ⊢
    exact ⟨(rep_flat f.1 h1).1, reps_flat h2 f.2⟩
theorem inV_D {ρ : List Addr} {G : Hp} {d : D} {v : V} (f : flatD d = true) (h : Rep C ρ G d v) : ∀ {ds : List D} {vs : List V}, Reps C ρ G ds vs → ds.all flatD = true → inV v vs = inF d ds
  | [], _, h, _ => by rw [h.inv0]; rfl
  | d' :: ds, _, h', f' => by
    obtain ⟨v', r, rfl, h1, h2⟩ := h'.inv
    rw [List.all_cons, Bool.and_eq_true] at f'
    unfold inV inF
    rw [List.any_cons, List.any_cons, eqV_D f'.1 f h1 h]
    exact congrArg _ (inV_D f h h2 f'.2)
def rInA (K : PySem.W.Frag) (neg : Bool) : R2 := fun x y H Q => rIn K neg x y H Q ∨ (if neg then rNotInS x y H Q else rInS x y H Q)
theorem flat_rep {ρ : List Addr} {G H : Hp} {d : D} {v : V} (f : flatD d = true) (h : RT C ρ G H d v) : Rep C ρ G d v := by
  cases d <;> first | exact h | cases f
theorem ok_inG {neg : Bool} {f : D → D → Option D} (hf : ∀ x y, f x y = (dIn x y).map fun k => D.bl (if neg then !k else k)) : R2Ok C (RS C) (rInA C.K neg) f := ok_B (g := fun x y => (dIn x y).map fun k => if neg then !k else k) (fun x y => by rw [hf]; cases dIn x y <;> rfl) fun S ρ G H x y dx dy k Q m rx ry e q => by
  cases z : dIn dx dy with
  | none => rw [z] at e; cases e
  | some k0 =>
    rw [z] at e
    have e : (if neg then !k0 else k0) = k := Option.some.inj e
    subst e
    unfold dIn at z
    split at z
    · rename_i d xs
      split at z
      · rename_i hf
        cases z
        obtain ⟨a, vs, rfl, h1, h2⟩ := ry
        have r := flat_rep hf.1 rx
        refine .inl ⟨a, vs, rfl, .inl (SqL.of h1), (rep_flat hf.1 r).1, reps_flat h2 hf.2, ?_⟩
        rw [inV_D hf.1 r h2 hf.2]; exact q
      · cases z
    · rename_i d xs
      split at z
      · rename_i hf
        cases z
        rw [rt_tup] at ry
        obtain ⟨a, vs, rfl, h1, h2⟩ := ry
        have r := flat_rep hf.1 rx
        refine .inl ⟨a, vs, rfl, .inr (m.sub.sqT h1), (rep_flat hf.1 r).1, reps_flat h2 hf.2, ?_⟩
        rw [inV_D hf.1 r h2 hf.2]; exact q
      · cases z
    · rename_i x y
      split at z
      · rename_i hl
        cases z
        rw [rt_str] at rx ry
        subst rx ry
        obtain ⟨⟨l⟩⟩ := x
        have hl : l.length = 1 := hl
        obtain ⟨c, rfl⟩ : ∃ c, l = [c] := by
          cases l with
          | nil => cases hl
          | cons c r => cases r with
            | nil => exact ⟨c, rfl⟩
            | cons _ _ => cases hl
        refine .inr ?_
        cases neg with
        | true => exact ⟨c, y, rfl, rfl, q⟩
        | false => exact ⟨c, y, rfl, rfl, q⟩
      · cases z
    · cases z
theorem ok_in : R2Ok C (RS C) (rInA C.K false) cIn := ok_inG fun _ _ => rfl
theorem ok_notIn : R2Ok C (RS C) (rInA C.K true) cNotIn := ok_inG fun _ _ => rfl
theorem or_in : OpR X (compareOp .In) (rInA X.K false) := op_in_seq.or op_inS
theorem or_notIn : OpR X (compareOp .NotIn) (rInA X.K true) := op_notIn_seq.or op_notInS
theorem dt_in (ha : DO X cls W a δa) (hb : DO X cls W b δb) (hm : behindInMarks .In b = false) : DT X cls W (.Compare a [.In] [b] pos) (tB (eOp cIn δa δb)) := dt_cmp or_in ok_in ha hb hm
theorem dt_notIn (ha : DO X cls W a δa) (hb : DO X cls W b δb) (hm : behindInMarks .NotIn b = false) : DT X cls W (.Compare a [.NotIn] [b] pos) (tB (eOp cNotIn δa δb)) := dt_cmp or_notIn ok_notIn ha hb hm
theorem de_in (ha : DO X cls W a δa) (hb : DO X cls W b δb) (hm : behindInMarks .In b = false) : DE X cls W (.Compare a [.In] [b] pos) (eOp cIn δa δb) := de_cmp or_in ok_in ha hb hm
theorem de_notIn (ha : DO X cls W a δa) (hb : DO X cls W b δb) (hm : behindInMarks .NotIn b = false) : DE X cls W (.Compare a [.NotIn] [b] pos) (eOp cNotIn δa δb) := de_cmp or_notIn ok_notIn ha hb hm
end
end DL

namespace DL
open PySem PySem.Spec PyProof.Rows L2

/-! ### tuple * int: once, or of nothing -/
theorem tuple_mulS (l : Addr) (items : Array Value) (n : Nat) (dd : Option Addr) (sl : Array (Option Value)) (x : Int) (u : Tok) (c0 : (decide (x < -(2 ^ 63)) || decide (x ≥ 2 ^ 63)) = false) (c1 : (items.isEmpty || x == 1) = true) :
    Meets (Builtin.«tuple.__mul__» ⟨[.ref l, .int x u], []⟩) (fun _ R s => s.heap.get? l = some { cls := .type "tuple", dict := dd, data := .seq items n, slots := sl } ∧ R (.ok (.ret (Value.ref l))) s) :=
  .of_wp fun prog w A R s h => by
    obtain ⟨hp, g, d, tk, os⟩ := s
    obtain ⟨hl, h⟩ := h
    have f1 := AutoSeq1.idx_int
    wp_walk using wpAny_loadPart' hl
    repeat (first
      | (refine wpAny_ite_false (decide_eq_false (by rw [c0]; exact Bool.false_ne_true)) ?_; wp_walk using wpAny_loadPart' hl)
      | (refine wpAny_ite_true (decide_eq_true c1) ?_; wp_walk using wpAny_loadPart' hl))
    exact ⟨_, rfl, h⟩
def rRepS (K : PySem.W.Frag) : R2 := fun x y H Q => ∃ l k xs, x = .ref l ∧ y = .int k ∧ SqT K H l xs ∧ -(2 ^ 63) ≤ k ∧ k < 2 ^ 63 ∧ (xs = [] ∨ k = 1) ∧ Q (.ref l) H
theorem op_repS {X : Cx} : OpR X (binaryOp .Mult) (rRepS X.K) := by
  intro pins s σ H x y v u Q I rx ry h
  obtain ⟨l, k, xs, rfl, rfl, hT, h1, h2, hz, q⟩ := h
  cases rx
  obtain ⟨t, rfl⟩ := ry
  obtain ⟨its, r, ⟨⟨cls, dd, data, sl⟩, ho, hc, n, hd⟩, hs⟩ := I.tuple hT
  simp only at hc hd
  subst hc hd
  have c0 : (decide (k < -(2 ^ 63)) || decide (k ≥ 2 ^ 63)) = false := by
    rw [decide_eq_false (by omega), decide_eq_false (by omega)] <;> rfl
  have c1 : (its.toArray.isEmpty || k == 1) = true := by
    rcases hz with rfl | rfl
    · cases r; rfl
    · simp
  exact wpAny_binaryOp_repeat_ref (T := "tuple") (U := "int") (by decide) ⟨_, ho, rfl⟩ (fun s' => typeIs_int s' k t) noFill_tuple_mul F.fills_int_mul F.slot_int_rmul repeat_tuple F.slot_int_index.lookup
    (call_meets F.slot_int_rmul (typeIs_int s k t) F.entry_int_rmul (F.args_int_rmul_2 _ _) (int_rmul_tuple k t l its.toArray n dd sl)
      ⟨ho, rfl, ⟨_, ho, rfl⟩, call_meets F.slot_tuple_mul ⟨_, ho, rfl⟩ F.entry_tuple_mul (F.args_tuple_mul_2 _ _) (tuple_mulS l its.toArray n dd sl k t c0 c1) ⟨ho, ⟨.ref l, H, I, rfl, q⟩⟩⟩)

section
variable {X : Cx} {cls : Nat → Addr} {C : Cn} {W : WX} {a b c e : Expr} {pos : Pos} {δa δb δc δ : De}
def onTM : D → D → Option D
  | .tup xs, .int k => if 1 ≤ k ∧ k ≤ 1000 ∧ xs.length ≤ 1000 then some (.tup (List.replicate k.toNat xs).flatten) else none
  | _, _ => none
theorem ok_TM : R2Ok C (RS C) (fun x y H Q => rRepS C.K x y H Q ∨ rRepX C.K x y H Q) onTM := fun S ρ G H x y d dx dy Q m rx ry e q => by
  cases dx <;> try cases e
  rename_i xs
  cases dy <;> try cases e
  rename_i k
  rw [rt_tup] at rx
  obtain ⟨a, vs, rfl, h1, r1⟩ := rx
  rw [rt_int] at ry
  subst ry
  simp only [onTM] at e
  split at e
  · rename_i hp
    cases e
    have hl := r1.length
    by_cases hx : vs = []
    · subst hx
      have e0 : xs = [] := by cases xs with
        | nil => rfl
        | cons _ _ => cases hl
      subst e0
      refine .inl ⟨a, k, [], rfl, rfl, m.sub.sqT h1, by omega, by omega, .inl rfl, q _ _ _ _ m .refl (rep_tup.mpr ⟨a, [], rfl, h1, ?_⟩)⟩
      have z : (List.replicate k.toNat ([] : List D)).flatten = [] := by induction k.toNat with
        | zero => rfl
        | succ n ih => rw [List.replicate_succ, List.flatten_cons, ih]; rfl
      rw [z]; exact .nil
    · by_cases hk : k = 1
      · subst hk
        refine .inl ⟨a, 1, vs, rfl, rfl, m.sub.sqT h1, by decide, by decide, .inr rfl, q _ _ _ _ m .refl (rep_tup.mpr ⟨a, vs, rfl, h1, ?_⟩)⟩
        simpa using r1
      · refine .inr ⟨a, k, vs, rfl, rfl, m.sub.sqT h1, hx, by omega, hp.2.1, by omega, fun p ob hpn hd => ?_⟩
        obtain ⟨G2, m2, n2, r⟩ := x_newT m (r1.rep k.toNat) hpn hd
        exact q _ _ _ _ m2 n2 r
  · cases e
theorem dMul_cases (a b d : D) (h : dMul a b = some d) : fMulI a b = some d ∨ onLM a b = some d ∨ onTM a b = some d := by
  cases a <;> cases b <;> first
    | exact .inr (.inl h)
    | exact .inr (.inr h)
    | (cases h; done)
    | (refine .inl ?_
       simp only [dMul] at h
       split at h
       · rename_i hm
         show (if decide (mulOk _ _) = true then _ else _) = _
         rw [if_pos (decide_eq_true hm)]; exact h
       · cases h)
theorem de_mul (ha : DO X cls W a δa) (hb : DO X cls W b δb) : DE X cls W (.BinOp a .Mult b pos) (eOp dMul δa δb) :=
  de_op (op_mul.or (op_rep.or (op_repS.or op_repX))) ((ok_I fun i j h => of_decide_eq_true (p := mulOk i j) h).or (g := dMul) (f' := fun a b => if (onLM a b).isSome then onLM a b else onTM a b) ((rf_rs ok_LM).or (f' := onTM) ok_TM (fun a b d h => by
      by_cases z : (onLM a b).isSome
      · rw [if_pos z] at h; exact .inl h
      · rw [if_neg z] at h; exact .inr h)) (fun a b d h => by
      rcases dMul_cases a b d h with h | h | h
      · exact .inl h
      · exact .inr (by rw [h]; rfl)
      · exact .inr (by cases a <;> cases b <;> first | cases h | (show (if (Option.isSome none) = true then _ else _) = _; exact h)))) ha hb
theorem de_neg (ha : DO X cls W a δa) : DE X cls W (.UnaryOp .USub a pos) (eUn dNeg δa) := de_un un_neg (fun S ρ G H x d dx Q m rx e q => by
  cases dx <;> try cases e
  rw [rt_int] at rx
  subst rx
  exact ⟨_, rfl, q _ _ _ _ m .refl (rep_int.mpr rfl)⟩) ha

/-! ### places -/
theorem atI_reps {ρ : List Addr} {G : Hp} {ds : List D} {vs : List V} (r : Reps C ρ G ds vs) {i : Int} {d : D} (h : atI ds i = some d) : ∃ v, atI vs i = some v ∧ Rep C ρ G d v := by
  unfold atI at h ⊢
  rw [r.length] at h
  cases z : ixN vs.length i with
  | none => rw [z] at h; cases h
  | some j =>
    rw [z] at h
    obtain ⟨v, hv, rv⟩ := r.get (i := j) h
    exact ⟨v, hv, rv⟩
theorem atI_map {α β : Type} (f : α → β) (xs : List α) (i : Int) : atI (xs.map f) i = (atI xs i).map f := by
  unfold atI
  rw [List.length_map]
  cases ixN xs.length i with
  | none => rfl
  | some j => simp
theorem ok_ix : R2Ok C (RS C) (rIx C.K) dIdx := fun S ρ G H x y d dx dy Q m rx ry e q => by
  cases dx <;> try cases e
  · cases dy <;> try cases e
    rename_i x i
    rw [rt_str] at rx; rw [rt_int] at ry
    subst rx ry
    simp only [dIdx] at e
    split at e
    · rename_i hz
      cases z : atI x.cps.toList i with
      | none => rw [z] at e; cases e
      | some c =>
        rw [z] at e; cases e
        exact .inr (.inr ⟨x, i, c, rfl, rfl, hz, z, q _ _ _ _ m .refl (rep_str.mpr rfl)⟩)
    · cases e
  · cases dy <;> try cases e
    rename_i xs i
    rw [rt_int] at ry
    subst ry
    obtain ⟨a, vs, rfl, h1, r1⟩ := rx
    obtain ⟨v, hv, rv⟩ := atI_reps r1 (show atI xs i = some d from e)
    exact .inl ⟨a, vs, i, v, rfl, rfl, SqL.of h1, hv, q _ _ _ _ m .refl rv⟩
  · cases dy <;> try cases e
    rename_i xs i
    rw [rt_int] at ry
    subst ry
    rw [rt_tup] at rx
    obtain ⟨a, vs, rfl, h1, r1⟩ := rx
    obtain ⟨v, hv, rv⟩ := atI_reps r1 (show atI xs i = some d from e)
    exact .inr (.inl ⟨a, vs, i, v, rfl, rfl, m.sub.sqT h1, hv, q _ _ _ _ m .refl rv⟩)
  · cases dy <;> try cases e
    rename_i xs i
    rw [rt_int] at ry
    subst ry
    rw [rt_scr] at rx
    obtain ⟨a, rfl, h1⟩ := rx
    replace e : (atI xs i).map D.int = some d := e
    cases z : atI xs i with
    | none => rw [z] at e; cases e
    | some n =>
      rw [z] at e; cases e
      exact .inl ⟨a, _, i, .int n, rfl, rfl, m.sub.sqL h1, by rw [atI_map, z]; rfl, q _ _ _ _ m .refl (rep_int.mpr rfl)⟩
theorem de_sub_ (ha : DO X cls W a δa) (hb : DO X cls W b δb) (hs : PlainIx b := by exact fun _ _ => rfl) : DE X cls W (.Subscript a b pos) (eOp dIdx δa δb) := de_ix ix_seq ok_ix ha hb hs

/-! ### slices -/
def RQ {α : Type} : RVT α α := fun _ _ _ _ a b => a = b
theorem back_RQ {α : Type} : Back (RQ (α := α)) := fun _ _ _ _ _ _ _ _ h => h
abbrev Dp_ := List Sl → List D → Res (Option Int)
def tP (C : Cn) (W : WX) (δ : Dp_) : TO := fun σ H Q => ∃ Γ S ρ G, Mem C Γ S ρ G H σ ∧ Post C W RQ Γ ρ G H σ (δ Γ S) Q
def DP (X : Cx) (cls : Nat → Addr) (W : WX) (e : Option Expr) (δ : Dp_) : Prop := PO X e (tP ⟨X.K, cls⟩ W δ)
theorem PO.weak {X : Cx} {e : Option Expr} {t t' : TO} (h : PO X e t) (i : ∀ σ H Q, t' σ H Q → t σ H Q) : PO X e t' := ⟨fun pins s σ H Q I h' => h.run pins s σ H Q I (i σ H Q h')⟩
def pNo : Dp_ := fun _ S => .ok none S
def asI : D → Option Int | .int i => some i | _ => none
def pSo (a : De) : Dp_ := fun Γ S => (a Γ S).bind fun x S1 => ofO ((asI x).map some) S1
theorem dp_no : DP X cls W none pNo := PO.weak po_none fun σ H Q ⟨Γ, S, ρ, G, m, p⟩ => p.at m rfl
theorem dp_so (ha : DE X cls W a δa) : DP X cls W (some a) (pSo δa) := PO.weak (po_some ha) fun σ H Q ⟨Γ, S, ρ, G, m, p⟩ => ⟨Γ, S, ρ, G, m, (Post.seq back_RQ p).mono fun x H1 ⟨dx, S1, ρ1, G1, m1, n1, r1, p1⟩ => by
  obtain ⟨k, hk, p2⟩ := ofO_post p1
  cases dx <;> try cases hk
  exact ⟨_, rep_int.mp r1, p2.at m1 rfl⟩⟩
def dCut (d : D) (lo hi : Option Int) : Option D := match d with
  | .lst xs => some (.lst (cutD xs lo hi))
  | .tup xs => some (.tup (cutD xs lo hi))
  | .str x => if x.length ≤ sizeLine then some (.str (cutS x lo hi)) else none
  | _ => none
def onlyL (d : D) (lo hi : Option Int) : Option D := match d with
  | .lst xs => some (.lst (cutD xs lo hi))
  | _ => none
def eCut (f : D → Option Int → Option Int → Option D) (a : De) (lo hi : Dp_) : De := fun Γ S => (a Γ S).bind fun x S1 => (lo Γ S1).bind fun l S2 => (hi Γ S2).bind fun h S3 => ofO (f (deref S3 x) l h) S3
theorem Reps.cut {ρ : List Addr} {G : Hp} {ds : List D} {vs : List V} (r : Reps C ρ G ds vs) (lo hi : Option Int) : Reps C ρ G (cutD ds lo hi) (cutV vs lo hi) := by
  unfold cutD cutV
  rw [r.length]
  exact (r.drop _).take _
theorem x_cut {RV : RVT D V} (bk : Back RV) {lo hi : Dp_} {R : V → Option Int → Option Int → Hp → VK → Prop} {f : D → Option Int → Option Int → Option D}
    (ho : ∀ (S : List D) ρ G H x dx l h d (Q : VK), MemS ⟨X.K, cls⟩ S ρ G H → RT ⟨X.K, cls⟩ ρ G H dx x → f dx l h = some d → (∀ v ρ' G' H', MemS ⟨X.K, cls⟩ S ρ' G' H' → Nx ρ G H ρ' G' H' → RV H ρ' G' H' d v → Q v H') → R x l h H Q)
    {σ : L2.St} {H : Hp} {Q : VK} (h : tE ⟨X.K, cls⟩ W RV (eCut f δa lo hi) σ H Q) : tSl R (tE ⟨X.K, cls⟩ W (RO ⟨X.K, cls⟩) δa) (tP ⟨X.K, cls⟩ W lo) (tP ⟨X.K, cls⟩ W hi) σ H Q := by
  obtain ⟨Γ, S, ρ, G, m, p⟩ := h
  refine ⟨Γ, S, ρ, G, m, (Post.seq bk p).mono fun x H1 ⟨dx, S1, ρ1, G1, m1, n1, r1, p1⟩ => ⟨Γ, S1, ρ1, G1, m1, (Post.seq (RV := RQ) bk p1).mono fun l H2 ⟨l', S2, ρ2, G2, m2, n2, r2, p2⟩ => ⟨Γ, S2, ρ2, G2, m2, (Post.seq (RV := RQ) bk p2).mono fun h H3 ⟨h', S3, ρ3, G3, m3, n3, r3, p3⟩ => ?_⟩⟩⟩
  have e2 : l' = l := r2
  have e3 : h' = h := r3
  subst e2 e3
  obtain ⟨d, hd, p4⟩ := ofO_post p3
  exact ho S3 ρ3 G3 H3 x _ l' h' d Q m3.toS (m3.read (H0 := H1) ((r1.step (H1 := H1) n2).step n3)) hd fun v ρ' G' H' m' n' r' => p4.here (m3.step n' m') n' r'
theorem de_cut {lo hi : Option Expr} {δl δh : Dp_} {p2 : Pos} (ha : DO X cls W a δa) (hl : DP X cls W lo δl) (hh : DP X cls W hi δh) : DE X cls W (.Subscript a (.Slice lo hi none p2) pos) (eCut dCut δa δl δh) :=
  PE.weak (pe_slice (sl_list.or (sl_tupX.or sl_str)) ha hl hh) fun σ H Q h => x_cut back_RS (fun S ρ G H x dx l h d Q m rx e q => by
    cases dx <;> try cases e
    · rw [rt_str] at rx
      subst rx
      simp only [dCut] at e
      split at e
      · rename_i hz
        cases e
        exact .inr (.inr ⟨_, rfl, hz, q _ _ _ _ m .refl (rep_str.mpr rfl)⟩)
      · cases e
    · obtain ⟨a, vs, rfl, h1, r1⟩ := rx
      refine .inl ⟨a, vs, rfl, SqL.of h1, fun p hp => ?_⟩
      obtain ⟨m2, n2, r⟩ := x_new m (r1.cut l h) hp
      obtain ⟨G2, m3, n3, r3⟩ := RF.settle m n2 m2 r
      exact q _ _ _ _ m3 n3 r3
    · rw [rt_tup] at rx
      obtain ⟨a, vs, rfl, h1, r1⟩ := rx
      refine .inr (.inl ⟨a, vs, rfl, m.sub.sqT h1, fun hw => ?_, fun _ p ob hp hd => ?_⟩)
      · have z : cutV vs l h = vs := by
          unfold cutV
          rw [hw.1, hw.2]; simp
        exact q _ _ _ _ m .refl (rep_tup.mpr ⟨a, vs, rfl, h1, by rw [← z]; exact r1.cut l h⟩)
      · obtain ⟨G2, m2, n2, r⟩ := x_newT m (r1.cut l h) hp hd
        exact q _ _ _ _ m2 n2 r) h
theorem df_cut {lo hi : Option Expr} {δl δh : Dp_} {p2 : Pos} (ha : DO X cls W a δa) (hl : DP X cls W lo δl) (hh : DP X cls W hi δh) : DF X cls W (.Subscript a (.Slice lo hi none p2) pos) (eCut onlyL δa δl δh) :=
  PE.weak (pe_slice sl_list ha hl hh) fun σ H Q h => x_cut back_RF (fun S ρ G H x dx l h d Q m rx e q => by
    cases dx <;> try cases e
    obtain ⟨a, vs, rfl, h1, r1⟩ := rx
    refine ⟨a, vs, rfl, SqL.of h1, fun p hp => ?_⟩
    obtain ⟨m2, n2, r⟩ := x_new m (r1.cut l h) hp
    exact q _ _ _ _ m2 n2 r) h

/-! ### built-in calls -/
def RC1 (C : Cn) (RV : RVT D V) (R : List V → Hp → VK → Prop) (f : D → Option D) : Prop := ∀ (S : List D) (ρ : List Addr) (G H : Hp) (x : V) (d dx : D) (Q : VK), MemS C S ρ G H → RT C ρ G H dx x → f dx = some d →
  (∀ v ρ' G' H', MemS C S ρ' G' H' → Nx ρ G H ρ' G' H' → RV H ρ' G' H' d v → Q v H') → R [x] H Q
def RC2 (C : Cn) (RV : RVT D V) (R : List V → Hp → VK → Prop) (f : D → D → Option D) : Prop := ∀ (S : List D) (ρ : List Addr) (G H : Hp) (x y : V) (d dx dy : D) (Q : VK), MemS C S ρ G H → RT C ρ G H dx x → RT C ρ G H dy y → f dx dy = some d →
  (∀ v ρ' G' H', MemS C S ρ' G' H' → Nx ρ G H ρ' G' H' → RV H ρ' G' H' d v → Q v H') → R [x, y] H Q
theorem x_c1 {RV : RVT D V} (bk : Back RV) {R : List V → Hp → VK → Prop} {f : D → Option D} (h : PE X e (tCB R (tCons (tE ⟨X.K, cls⟩ W (RO ⟨X.K, cls⟩) δa) tNil))) (ho : RC1 ⟨X.K, cls⟩ RV R f) : PE X e (tE ⟨X.K, cls⟩ W RV (eUn f δa)) :=
  PE.weak h fun σ H Q h => x_un (R := fun x H Q => R [x] H Q) bk (fun S ρ G H x d dx Q m rx e q => ho S ρ G H x d dx Q m rx e q) h
theorem x_c2 {RV : RVT D V} (bk : Back RV) {R : List V → Hp → VK → Prop} {f : D → D → Option D} (h : PE X e (tCB R (tCons (tE ⟨X.K, cls⟩ W (RO ⟨X.K, cls⟩) δa) (tCons (tE ⟨X.K, cls⟩ W (RO ⟨X.K, cls⟩) δb) tNil)))) (ho : RC2 ⟨X.K, cls⟩ RV R f) : PE X e (tE ⟨X.K, cls⟩ W RV (eOp f δa δb)) :=
  PE.weak h fun σ H Q h => x_op (R := fun x y H Q => R [x, y] H Q) bk (fun S ρ G H x y d dx dy Q m rx ry e q => ho S ρ G H x y d dx dy Q m rx ry e q) h
theorem da1 (ha : DO X cls W a δa) (hs : starEach [a] X.env = (false, eval a X.env) :: starEach [] X.env := by rfl) : PA X [a] (tCons (tE ⟨X.K, cls⟩ W (RO ⟨X.K, cls⟩) δa) tNil) := pa_cons ha pa_nil hs
theorem da2 (ha : DO X cls W a δa) (hb : DO X cls W b δb) (hs : starEach [a, b] X.env = (false, eval a X.env) :: starEach [b] X.env := by rfl) (hs2 : starEach [b] X.env = (false, eval b X.env) :: starEach [] X.env := by rfl) : PA X [a, b] (tCons (tE ⟨X.K, cls⟩ W (RO ⟨X.K, cls⟩) δa) (tCons (tE ⟨X.K, cls⟩ W (RO ⟨X.K, cls⟩) δb) tNil)) := pa_cons ha (pa_cons hb pa_nil hs2) hs
theorem rc_len : RC1 C (RS C) (fun xs H Q => (∃ p ys, xs = [.ref p] ∧ (SqL C.K H p ys ∨ SqT C.K H p ys) ∧ Q (.int ys.length) H) ∨ ∃ z, xs = [.str z] ∧ z.length ≤ sizeLine ∧ Q (.int z.length) H) dLen := fun S ρ G H x d dx Q m rx e q => by
  cases dx <;> try cases e
  · rw [rt_str] at rx; subst rx
    simp only [dLen] at e
    split at e
    · cases e; exact .inr ⟨_, rfl, by assumption, q _ _ _ _ m .refl (rep_int.mpr rfl)⟩
    · cases e
  · obtain ⟨a, vs, rfl, h1, r1⟩ := rx
    exact .inl ⟨a, vs, rfl, .inl (SqL.of h1), q _ _ _ _ m .refl (rep_int.mpr (by rw [r1.length]))⟩
  · rw [rt_tup] at rx
    obtain ⟨a, vs, rfl, h1, r1⟩ := rx
    exact .inl ⟨a, vs, rfl, .inr (m.sub.sqT h1), q _ _ _ _ m .refl (rep_int.mpr (by rw [r1.length]))⟩
  · rw [rt_scr] at rx
    obtain ⟨a, rfl, h1⟩ := rx
    exact .inl ⟨a, _, rfl, .inl (m.sub.sqL h1), q _ _ _ _ m .refl (rep_int.mpr (by rw [List.length_map]))⟩
variable {p : Pos}
theorem de_len (hg : Gl X "len") (hm : X.mg "len" = none) (ha : DO X cls W a δa) (he : starEach [a] X.env = (false, eval a X.env) :: starEach [] X.env := by rfl) (hpl : (backTo pos (starEach [] X.env)).any (·.1) = false := by rfl) : DE X cls W (.Call (.Name "len" p) [a] [] pos) (eUn dLen δa) :=
  x_c1 back_RS (pe_callB (call_len_seq.or call_len_str) hg hm PySem.boot_len (da1 ha he) (by decide) (by decide) he hpl) rc_len
def dInt : D → Option D
  | .int i => some (.int i)
  | .bl b => some (.int (if b then 1 else 0))
  | .str x => if x.length ≤ 640 then (PySem.intText? x).map .int else none
  | _ => none
theorem rc_int : RC1 C (RS C) (fun xs H Q => ((∃ i, xs = [.int i] ∧ Q (.int i) H) ∨ ∃ k, xs = [.bl k] ∧ Q (.int (if k then 1 else 0)) H) ∨ ∃ a n, xs = [.str a] ∧ PySem.intText? a = some n ∧ a.length ≤ 640 ∧ Q (.int n) H) dInt := fun S ρ G H x d dx Q m rx e q => by
  cases dx <;> try cases e
  · rw [rt_bl] at rx; subst rx; exact .inl (.inr ⟨_, rfl, q _ _ _ _ m .refl (rep_int.mpr rfl)⟩)
  · rw [rt_int] at rx; subst rx; exact .inl (.inl ⟨_, rfl, q _ _ _ _ m .refl (rep_int.mpr rfl)⟩)
  · rename_i x
    rw [rt_str] at rx; subst rx
    simp only [dInt] at e
    split at e
    · cases z : PySem.intText? x with
      | none => rw [z] at e; cases e
      | some n => rw [z] at e; cases e; exact .inr ⟨_, n, rfl, z, by assumption, q _ _ _ _ m .refl (rep_int.mpr rfl)⟩
    · cases e
theorem de_intc (hg : Gl X "int") (hm : X.mg "int" = none) (ha : DO X cls W a δa) (he : starEach [a] X.env = (false, eval a X.env) :: starEach [] X.env := by rfl) (hpl : (backTo pos (starEach [] X.env)).any (·.1) = false := by rfl) : DE X cls W (.Call (.Name "int" p) [a] [] pos) (eUn dInt δa) :=
  x_c1 back_RS (pe_callTy (call_int1.or call_int_str) hg hm (by decide +kernel) (da1 ha he) (by decide) (by decide) he hpl) rc_int
def dTuple : D → Option D
  | .lst xs => some (.tup xs)
  | .tup xs => some (.tup xs)
  | _ => none
theorem rc_tuple : RC1 C (RS C) (fun xs H Q => ∃ p ys, xs = [.ref p] ∧ ((SqL C.K H p ys ∧ NewX H Q ys) ∨ (SqT C.K H p ys ∧ Q (.ref p) H))) dTuple := fun S ρ G H x d dx Q m rx e q => by
  cases dx <;> try cases e
  · obtain ⟨a, vs, rfl, h1, r1⟩ := rx
    refine ⟨a, vs, rfl, .inl ⟨SqL.of h1, fun l ob hl hd => ?_⟩⟩
    obtain ⟨G2, m2, n2, r⟩ := x_newT m r1 hl hd
    exact q _ _ _ _ m2 n2 r
  · rw [rt_tup] at rx
    obtain ⟨a, vs, rfl, h1, r1⟩ := rx
    exact ⟨a, vs, rfl, .inr ⟨m.sub.sqT h1, q _ _ _ _ m .refl (rep_tup.mpr ⟨a, vs, rfl, h1, r1⟩)⟩⟩
theorem de_tuple (hg : Gl X "tuple") (hm : X.mg "tuple" = none) (ha : DO X cls W a δa) (he : starEach [a] X.env = (false, eval a X.env) :: starEach [] X.env := by rfl) (hpl : (backTo pos (starEach [] X.env)).any (·.1) = false := by rfl) : DE X cls W (.Call (.Name "tuple" p) [a] [] pos) (eUn dTuple δa) :=
  x_c1 back_RS (pe_callTy call_tupleX hg hm (by decide +kernel) (da1 ha he) (by decide) (by decide) he hpl) rc_tuple
def dList : D → Option D
  | .lst xs => some (.lst xs)
  | .tup xs => some (.lst xs)
  | _ => none
theorem rc_list : RC1 C (RF C) (fun xs H Q => ∃ p ys, xs = [.ref p] ∧ (SqL C.K H p ys ∨ SqT C.K H p ys) ∧ ∀ l, H l = none → Q (.ref l) (upd H l (.lst ys))) dList := fun S ρ G H x d dx Q m rx e q => by
  cases dx <;> try cases e
  · obtain ⟨a, vs, rfl, h1, r1⟩ := rx
    refine ⟨a, vs, rfl, .inl (SqL.of h1), fun l hl => ?_⟩
    obtain ⟨m2, n2, r⟩ := x_new m r1 hl
    exact q _ _ _ _ m2 n2 r
  · rw [rt_tup] at rx
    obtain ⟨a, vs, rfl, h1, r1⟩ := rx
    refine ⟨a, vs, rfl, .inr (m.sub.sqT h1), fun l hl => ?_⟩
    obtain ⟨m2, n2, r⟩ := x_new m r1 hl
    exact q _ _ _ _ m2 n2 r
theorem df_list (hg : Gl X "list") (hm : X.mg "list" = none) (ha : DO X cls W a δa) (he : starEach [a] X.env = (false, eval a X.env) :: starEach [] X.env := by rfl) (hpl : (backTo pos (starEach [] X.env)).any (·.1) = false := by rfl) : DF X cls W (.Call (.Name "list" p) [a] [] pos) (eUn dList δa) :=
  x_c1 back_RF (pe_callTy call_list_of hg hm (by decide +kernel) (da1 ha he) (by decide) (by decide) he hpl) rc_list
/-! isinstance -/
def tyN : D → Option String
  | .non => some "NoneType" | .bl _ => some "bool" | .int _ => some "int" | .str _ => some "str" | .lst _ => some "list" | .tup _ => some "tuple" | .dct _ _ => some "dict" | .scr _ => some "list" | _ => none
def dIsi (T : String) (d : D) : Option D := (tyN d).bind fun t => (kitB t T).map .bl
theorem rt_tyN {ρ : List Addr} {G H : Hp} (e : SubH C G H) {d : D} {v : V} {t : String} (h : RT C ρ G H d v) (k : tyN d = some t) : TyX C.K H v (.type t) := by
  cases d <;> cases k
  · rw [rt_non] at h; subst h; exact .base .non
  · rw [rt_bl] at h; subst h; exact .base (.bl _)
  · rw [rt_int] at h; subst h; exact .base (.int _)
  · rw [rt_str] at h; subst h; exact .base (.str _)
  · obtain ⟨a, vs, rfl, h1, _⟩ := h; exact .base (.lst h1)
  · rw [rt_tup] at h
    obtain ⟨a, vs, rfl, h1, _⟩ := h
    rcases e.sqT h1 with (h1 | ⟨o, h1⟩) | ⟨o, its, n, h1, h2, _⟩
    · exact .base (.tup h1)
    · exact .fTuple h1
    · exact .kTuple h1 h2
  · obtain ⟨a, vs, rfl, h1 | ⟨o, h1⟩, _⟩ := h
    · exact .base (.dK h1)
    · exact .fDict h1
  · rw [rt_scr] at h
    obtain ⟨a, rfl, h1⟩ := h
    rcases e.sqL h1 with (h1 | ⟨o, h1⟩) | ⟨o, its, n, h1, h2, _⟩
    · exact .base (.lst h1)
    · exact .base (.frz h1)
    · exact .kList h1 h2
theorem de_isi {T : String} {y : Str} {p2 : Pos} (hg : Gl X "isinstance") (hm : X.mg "isinstance" = none) (hgT : Gl X y) (hmT : X.mg y = none) (hvT : bootBuiltins y = some (.type T)) (ha : DO X cls W a δa)
    (hn : y ≠ "__name__" := by decide) (hdb : (y == ("__debug__" : Str)) = false := by decide)
    (he : starEach [a, .Name y p2] X.env = (false, eval a X.env) :: starEach [.Name y p2] X.env := by rfl) (he2 : starEach [.Name y p2] X.env = (false, eval (.Name y p2) X.env) :: starEach [] X.env := by rfl) (hpl : (backTo pos (starEach [.Name y p2] X.env)).any (·.1) = false := by rfl) :
    DE X cls W (.Call (.Name "isinstance" p) [a, .Name y p2] [] pos) (eUn (dIsi T) δa) :=
  PE.weak (pe_callB call_isi hg hm (by decide +kernel) (pa_cons ha (pa_cons (pe_bltn (v := .ty T) hgT hmT hvT rfl hn hdb) pa_nil he2) he) (by decide) (by decide) he hpl) fun σ H Q h =>
    x_un (R := fun x H Q => rIsi X.K [x, .ty T] H Q) back_RS (fun S ρ G H x d dx Q m rx e q => by
      unfold dIsi at e
      cases k : tyN dx with
      | none => rw [k] at e; cases e
      | some t =>
        rw [k] at e
        cases z : kitB t T with
        | none => simp only [Option.bind_some, z] at e; cases e
        | some b =>
          simp only [Option.bind_some, z] at e; cases e
          exact ⟨x, .ty T, _, _, b, rfl, .ty T, rt_tyN m.sub rx k, kit_ty z, q _ _ _ _ m .refl (rep_bl.mpr rfl)⟩) h
end
end DL

namespace DL
open PySem PySem.Spec PyProof.Rows L2

/-! ### statements -/
/-- what is locked stays so -/
def Old (H H' : Hp) : Prop := ∀ a ob u, H a = some (.frz ob u) → H' a = some (.frz ob u)
theorem Old.refl {H : Hp} : Old H H := fun _ _ _ h => h
theorem Old.trans {H H1 H2 : Hp} (x : Old H H1) (y : Old H1 H2) : Old H H2 := fun a ob u h => y a ob u (x a ob u h)
theorem ObAt.nofrz {C : Cn} {ρ : List Addr} {G H : Hp} {a : Addr} {ob : Obj} {u : HO} : ∀ {d : D}, ObAt C ρ G H a d → H a ≠ Option.some (HO.frz ob u)
  | .lst xs, ⟨vs, h, _⟩ => by rw [h]; exact fun z => (nomatch z)
  | .dct ks xs, ⟨vs, h, _⟩ => by rw [h]; exact fun z => (nomatch z)
  | .ins c ns xs, ⟨dx, vs, h, _⟩ => by rw [h]; exact fun z => (nomatch z)
theorem Mem.nofrz {C : Cn} {Γ : List Sl} {S : List D} {ρ : List Addr} {G H : Hp} {σ : L2.St} (m : Mem C Γ S ρ G H σ) {a : Addr} {ob : Obj} {u : HO} (h : H a = some (.frz ob u)) : a ∉ ρ := fun z => by
  obtain ⟨i, hi⟩ := List.mem_iff_getElem?.mp z
  have hi2 : i < S.length := by rw [← m.len]; exact (List.getElem?_eq_some_iff.mp hi).1
  obtain ⟨b, hb, r⟩ := m.sto i S[i] (List.getElem?_eq_getElem hi2)
  rw [hi] at hb; cases hb
  exact r.nofrz h
theorem old_of {C : Cn} {Γ : List Sl} {S : List D} {ρ ρ' : List Addr} {G H G' H' : Hp} {σ : L2.St} (m : Mem C Γ S ρ G H σ) (n : Nx ρ G H ρ' G' H') : Old H H' := fun a ob u h => n.keep a _ (fun _ z => nomatch z) h (m.nofrz h)
/-- an entry (a def's), and what has been settled since a loop began -/
structure Ent where
  ρ : List Addr
  G : Hp
  H : Hp
  B : Hp
  R : List Addr
  F : Hp
structure SI (C : Cn) (en : Ent) (Γ : List Sl) (S : List D) (ρ : List Addr) (G H : Hp) (σ : L2.St) : Prop where
  mem : Mem C Γ S ρ G H σ
  nx : Nx en.ρ en.G en.H ρ G H
  frs : ∀ (i : Nat) (d : D) (a : Addr), Γ[i]? = some (Sl.own d) → σ[i]? = some (some (V.ref a)) → en.H a = none
  base : Sub en.B G
  basr : en.R <+: ρ
  old : Old en.F H
section
variable {C : Cn} {W : WX} {en : Ent} {Γ Γ' : List Sl} {S S' : List D} {ρ ρ' : List Addr} {G G' H H' : Hp} {σ σ' : L2.St}
theorem SI.step (i : SI C en Γ S ρ G H σ) (m : Mem C Γ S' ρ' G' H' σ) (n : Nx ρ G H ρ' G' H') : SI C en Γ S' ρ' G' H' σ := ⟨m, i.nx.trans n, i.frs, i.base.trans n.ext, i.basr.trans n.pre, i.old.trans (old_of i.mem n)⟩
/-- what is wanted behind a statement -/
def PostS (C : Cn) (W : WX) (en : Ent) (D : Ends) : Out → Prop
  | .next Γ S => ∀ ρ G H σ, SI C en Γ S ρ G H σ → D.nx σ H
  | .brk Γ S => ∀ ρ G H σ, SI C en Γ S ρ G H σ → D.bk σ H
  | .cont Γ S => ∀ ρ G H σ, SI C en Γ S ρ G H σ → D.ct σ H
  | .ret d S => ∀ v ρ G H, MemS C S ρ G H → Nx en.ρ en.G en.H ρ G H → Sub en.B G ∧ Old en.F H → Rep C ρ G d v → D.rt v H
  | .exc e Γ S => ∀ cls dx ρ G H σ, SI C en Γ S ρ G H σ → ExRep C ρ G H e cls dx → W cls dx σ H
  | .stuck => False
def tS (C : Cn) (W : WX) (δ : Ds) : TS := fun D σ H => ∃ en Γ S ρ G, SI C en Γ S ρ G H σ ∧ PostS C W en D (δ Γ S)
def DS (X : Cx) (cls : Nat → Addr) (W : WX) (st : Stmt) (δ : Ds) : Prop := PS X st (tS ⟨X.K, cls⟩ W δ)
def DSs (X : Cx) (cls : Nat → Addr) (W : WX) (st : List Stmt) (δ : Ds) : Prop := PSs X st (tS ⟨X.K, cls⟩ W δ)
theorem PostS.mono {D D' : Ends} {o : Out} (h : PostS C W en D o) (h1 : ∀ σ H, D.nx σ H → D'.nx σ H) (h2 : ∀ v H, D.rt v H → D'.rt v H) (h3 : ∀ σ H, D.bk σ H → D'.bk σ H) (h4 : ∀ σ H, D.ct σ H → D'.ct σ H) : PostS C W en D' o := by
  cases o with
  | next Γ S => exact fun ρ G H σ i => h1 _ _ (h ρ G H σ i)
  | brk Γ S => exact fun ρ G H σ i => h3 _ _ (h ρ G H σ i)
  | cont Γ S => exact fun ρ G H σ i => h4 _ _ (h ρ G H σ i)
  | ret d S => exact fun v ρ G H m n o r => h2 _ _ (h v ρ G H m n o r)
  | exc e Γ S => exact h
  | stuck => exact h

def sNext : Ds := fun Γ S => .next Γ S
def sSeq (a b : Ds) : Ds := fun Γ S => match a Γ S with | .next Γ' S' => b Γ' S' | o => o
/-- a statement that begins with an evaluation -/
def after {α : Type} (r : Res α) (Γ : List Sl) (f : α → List D → Out) : Out := match r with
  | .ok d S => f d S
  | .exc e S => .exc e Γ S
  | .stuck => .stuck
@[simp] theorem after_ok {α : Type} (d : α) (S : List D) (Γ : List Sl) (f : α → List D → Out) : after (.ok d S) Γ f = f d S := Eq.trans rfl rfl
@[simp] theorem after_exc {α : Type} (e : Exn) (S : List D) (Γ : List Sl) (f : α → List D → Out) : after (.exc e S : Res α) Γ f = .exc e Γ S := Eq.trans rfl rfl
@[simp] theorem after_stuck {α : Type} (Γ : List Sl) (f : α → List D → Out) : after (.stuck : Res α) Γ f = .stuck := Eq.trans rfl rfl
def sExpr (e : De) : Ds := fun Γ S => after (e Γ S) Γ fun _ S1 => .next Γ S1
def sRet (e : De) : Ds := fun Γ S => after (e Γ S) Γ fun d S1 => .ret d S1
def sRetN : Ds := fun _ S => .ret .non S
def sSet (i : Nat) (e : De) : Ds := fun Γ S => after (e Γ S) Γ fun d S1 => .next (Γ.set i (.val d)) S1
def sOwn (i : Nat) (e : De) : Ds := fun Γ S => after (e Γ S) Γ fun d S1 => .next (Γ.set i (.own d)) S1
def sIf (t : Dt) (a b : Ds) : Ds := fun Γ S => after (t Γ S) Γ fun k S1 => if k then a Γ S1 else b Γ S1
def sBrk : Ds := fun Γ S => .brk Γ S
def sCont : Ds := fun Γ S => .cont Γ S

theorem post_after {α β : Type} {RV : RVT α β} {D : Ends} {r : Res α} {F : α → List DL.D → Out} {Q : β → Hp → Prop} (i : SI C en Γ S ρ G H σ) (h : PostS C W en D (after r Γ F))
    (k : ∀ d S1 ρ1 G1 H1 v, Mem C Γ S1 ρ1 G1 H1 σ → Nx ρ G H ρ1 G1 H1 → SI C en Γ S1 ρ1 G1 H1 σ → RV H ρ1 G1 H1 d v → PostS C W en D (F d S1) → Q v H1) : Post C W RV Γ ρ G H σ r Q := by
  cases r with
  | ok d S1 => exact fun v ρ1 G1 H1 m n c => k d S1 ρ1 G1 H1 v m n (i.step m n) c h
  | exc e S1 => exact fun cls dx ρ1 G1 H1 m n c => h cls dx ρ1 G1 H1 σ (i.step m n) c
  | stuck => exact h.elim
/-- a slot is set -/
theorem Mem.setv (m : Mem C Γ S ρ G H σ) (i : Nat) {d : D} {v : V} (r : Rep C ρ G d v) : Mem C (Γ.set i (.val d)) S ρ G H (σ.set i (some v)) where
  sub := m.sub
  val := fun j d' h => by
    by_cases e : i = j
    · subst e
      by_cases hl : i < Γ.length
      · rw [List.getElem?_set_self hl] at h; cases h
        exact ⟨v, List.getElem?_set_self (by rw [← m.wid]; exact hl), r⟩
      · rw [List.getElem?_eq_none (by simpa using hl)] at h; cases h
    · rw [List.getElem?_set_ne e] at h
      rw [List.getElem?_set_ne e]; exact m.val j d' h
  own := fun j d' h => by
    by_cases e : i = j
    · subst e
      by_cases hl : i < Γ.length
      · rw [List.getElem?_set_self hl] at h; cases h
      · rw [List.getElem?_eq_none (by simpa using hl)] at h; cases h
    · rw [List.getElem?_set_ne e] at h
      rw [List.getElem?_set_ne e]; exact m.own j d' h
  inj := fun j k d1 d2 a h1 h2 => by
    have ne : ∀ (j : Nat) (d' : D), (Γ.set i (Sl.val d))[j]? = some (Sl.own d') → i ≠ j ∧ Γ[j]? = some (Sl.own d') := fun j d' h => by
      by_cases e : i = j
      · subst e
        by_cases hl : i < Γ.length
        · rw [List.getElem?_set_self hl] at h; cases h
        · rw [List.getElem?_eq_none (by simpa using hl)] at h; cases h
      · rw [List.getElem?_set_ne e] at h; exact ⟨e, h⟩
    obtain ⟨n1, g1⟩ := ne j d1 h1
    obtain ⟨n2, g2⟩ := ne k d2 h2
    rw [List.getElem?_set_ne n1, List.getElem?_set_ne n2]
    exact m.inj j k d1 d2 a g1 g2
  sto := m.sto
  stG := m.stG
  len := m.len
  nd := m.nd
  wid := by rw [List.length_set, List.length_set]; exact m.wid
  xcp := fun j x h => by
    by_cases e : i = j
    · subst e
      by_cases hl : i < Γ.length
      · rw [List.getElem?_set_self hl] at h; cases h
      · rw [List.getElem?_eq_none (by simpa using hl)] at h; cases h
    · rw [List.getElem?_set_ne e] at h
      rw [List.getElem?_set_ne e]; exact m.xcp j x h
theorem SI.setv (s : SI C en Γ S ρ G H σ) (i : Nat) {d : D} {v : V} (r : Rep C ρ G d v) : SI C en (Γ.set i (.val d)) S ρ G H (σ.set i (some v)) := ⟨s.mem.setv i r, s.nx, fun j d' a h1 h2 => by
  by_cases e : i = j
  · subst e
    by_cases hl : i < Γ.length
    · rw [List.getElem?_set_self hl] at h1; cases h1
    · rw [List.getElem?_eq_none (by simpa using hl)] at h1; cases h1
  · rw [List.getElem?_set_ne e] at h1 h2; exact s.frs j d' a h1 h2, s.base, s.basr, s.old⟩
/-- a slot is forgotten -/
theorem SI.forget (s : SI C en Γ S ρ G H σ) (i : Nat) : SI C en (Γ.set i .non) S ρ G H σ := by
  have ne : ∀ (j : Nat) (x : Sl), x ≠ .non → (Γ.set i Sl.non)[j]? = some x → Γ[j]? = some x := fun j x hx h => by
    by_cases e : i = j
    · subst e
      by_cases hl : i < Γ.length
      · rw [List.getElem?_set_self hl] at h; cases h; exact absurd rfl hx
      · rw [List.getElem?_eq_none (by simpa using hl)] at h; cases h
    · rw [List.getElem?_set_ne e] at h; exact h
  exact ⟨⟨s.mem.sub, fun j d h => s.mem.val j d (ne j _ (fun z => nomatch z) h), fun j d h => s.mem.own j d (ne j _ (fun z => nomatch z) h), fun j k d d' a h1 h2 => s.mem.inj j k d d' a (ne j _ (fun z => nomatch z) h1) (ne k _ (fun z => nomatch z) h2), s.mem.sto, s.mem.stG, s.mem.len, s.mem.nd, by rw [List.length_set]; exact s.mem.wid, fun j x h => s.mem.xcp j x (ne j _ (fun z => nomatch z) h)⟩,
    s.nx, fun j d a h1 h2 => s.frs j d a (ne j _ (fun z => nomatch z) h1) h2, s.base, s.basr, s.old⟩
/-- a slot takes a new object for its own -/
theorem SI.seto (s : SI C en Γ S ρ G H σ) (i : Nat) {d : D} {a : Addr} (n : Nx ρ G H ρ' G' H') (m : Mem C Γ S' ρ' G' H' σ) (na : a ∉ ρ') (h0 : H a = none) (hg : G' a = none) (r : ObAt C ρ' G' H' a d) : SI C en (Γ.set i (.own d)) S' ρ' G' H' (σ.set i (some (V.ref a))) := by
  have other : ∀ (j : Nat) (d' : D) (b : Addr), Γ[j]? = some (Sl.own d') → σ[j]? = some (some (V.ref b)) → b ≠ a := fun j d' b h1 h2 z => by
    obtain ⟨b', e, r', _⟩ := s.mem.own j d' h1
    rw [h2] at e; cases e
    obtain ⟨o, ho⟩ := r'.some
    rw [z, h0] at ho; cases ho
  refine ⟨⟨m.sub, fun j d' h => ?_, fun j d' h => ?_, fun j k d1 d2 b h1 h2 e1 e2 => ?_, m.sto, m.stG, m.len, m.nd, by rw [List.length_set, List.length_set]; exact m.wid, fun j x h => ?_⟩, s.nx.trans n, fun j d' b h1 h2 => ?_, s.base.trans n.ext, s.basr.trans n.pre, s.old.trans (old_of s.mem n)⟩
  · by_cases e : i = j
    · subst e
      by_cases hl : i < Γ.length
      · rw [List.getElem?_set_self hl] at h; cases h
      · rw [List.getElem?_eq_none (by simpa using hl)] at h; cases h
    · rw [List.getElem?_set_ne e] at h
      rw [List.getElem?_set_ne e]; exact m.val j d' h
  · by_cases e : i = j
    · subst e
      by_cases hl : i < Γ.length
      · rw [List.getElem?_set_self hl] at h; cases h
        exact ⟨a, List.getElem?_set_self (by rw [← m.wid]; exact hl), r, hg, na⟩
      · rw [List.getElem?_eq_none (by simpa using hl)] at h; cases h
    · rw [List.getElem?_set_ne e] at h
      rw [List.getElem?_set_ne e]; exact m.own j d' h
  · have split : ∀ (j : Nat) (d' : D), (Γ.set i (Sl.own d))[j]? = some (Sl.own d') → i = j ∨ (i ≠ j ∧ Γ[j]? = some (Sl.own d')) := fun j d' h => by
      by_cases e : i = j
      · exact .inl e
      · rw [List.getElem?_set_ne e] at h; exact .inr ⟨e, h⟩
    have at_i : ∀ b, i < σ.length → (σ.set i (some (V.ref a)))[i]? = some (some (V.ref b)) → b = a := fun b hl h => by
      rw [List.getElem?_set_self hl] at h; cases h; rfl
    have hi : ∀ (d' : D), (Γ.set i (Sl.own d))[i]? = some (Sl.own d') → i < σ.length := fun d' h => by
      rw [← m.wid]
      by_cases hl : i < Γ.length
      · exact hl
      · rw [List.getElem?_eq_none (by simpa using hl)] at h; cases h
    rcases split j d1 h1 with z1 | ⟨n1, g1⟩
    · subst z1
      rcases split k d2 h2 with z2 | ⟨n2, g2⟩
      · exact z2
      · rw [List.getElem?_set_ne n2] at e2
        exact absurd (at_i b (hi _ h1) e1) (other k d2 b g2 e2)
    · rw [List.getElem?_set_ne n1] at e1
      rcases split k d2 h2 with z2 | ⟨n2, g2⟩
      · subst z2
        exact absurd (at_i b (hi _ h2) e2) (other j d1 b g1 e1)
      · rw [List.getElem?_set_ne n2] at e2
        exact m.inj j k d1 d2 b g1 g2 e1 e2
  · by_cases e : i = j
    · subst e
      by_cases hl : i < Γ.length
      · rw [List.getElem?_set_self hl] at h; cases h
      · rw [List.getElem?_eq_none (by simpa using hl)] at h; cases h
    · rw [List.getElem?_set_ne e] at h
      rw [List.getElem?_set_ne e]; exact m.xcp j x h
  · by_cases e : i = j
    · subst e
      by_cases hl : i < Γ.length
      · rw [List.getElem?_set_self (by rw [← m.wid]; exact hl)] at h2; cases h2
        exact s.nx.live _ h0
      · rw [List.getElem?_eq_none (by simpa using hl)] at h1; cases h1
    · rw [List.getElem?_set_ne e] at h1 h2; exact s.frs j d' b h1 h2
end

section
variable {X : Cx} {cls : Nat → Addr} {W : WX} {st : Stmt} {sts : List Stmt} {e c : Expr} {pos : Pos} {δ δ1 δ2 : Ds} {ε : De} {τ : Dt}
theorem dss_nil : DSs X cls W [] sNext := PSs.weak pss_nil fun D σ H ⟨en, Γ, S, ρ, G, i, p⟩ => p ρ G H σ i
theorem dss_one (h : DS X cls W st δ) : DSs X cls W [st] δ := pss_one h
theorem dss_cons (h : DS X cls W st δ1) (h2 : DSs X cls W sts δ2) : DSs X cls W (st :: sts) (sSeq δ1 δ2) := PSs.weak (pss_cons h h2) fun D σ H ⟨en, Γ, S, ρ, G, i, p⟩ => by
  refine ⟨en, Γ, S, ρ, G, i, ?_⟩
  unfold sSeq at p
  cases q : δ1 Γ S with
  | next Γ' S' => rw [q] at p; exact fun ρ' G' H' σ' i' => ⟨en, Γ', S', ρ', G', i', p⟩
  | brk Γ' S' => rw [q] at p; exact p
  | cont Γ' S' => rw [q] at p; exact p
  | ret d S' => rw [q] at p; exact p
  | exc x Γ' S' => rw [q] at p; exact p
  | stuck => rw [q] at p; exact p
theorem ds_pass : DS X cls W (.Pass pos) sNext := PS.weak ps_pass fun D σ H ⟨en, Γ, S, ρ, G, i, p⟩ => p ρ G H σ i
theorem ds_break : DS X cls W (.Break pos) sBrk := PS.weak ps_break fun D σ H ⟨en, Γ, S, ρ, G, i, p⟩ => p ρ G H σ i
theorem ds_cont : DS X cls W (.Continue pos) sCont := PS.weak ps_continue fun D σ H ⟨en, Γ, S, ρ, G, i, p⟩ => p ρ G H σ i
theorem ds_expr (h : DE X cls W e ε) (hs : swapsWith e none pos.line X.env = pure false := by rfl) : DS X cls W (.Expr e pos) (sExpr ε) := PS.weak (ps_expr h hs) fun D σ H ⟨en, Γ, S, ρ, G, i, p⟩ =>
  ⟨Γ, S, ρ, G, i.mem, post_after i p fun d S1 ρ1 G1 H1 v m n i1 r p1 => p1 ρ1 G1 H1 σ i1⟩
theorem ds_ret (h : DE X cls W e ε) : DS X cls W (.Return (some e) pos) (sRet ε) := PS.weak (ps_ret h) fun D σ H ⟨en, Γ, S, ρ, G, i, p⟩ =>
  ⟨Γ, S, ρ, G, i.mem, post_after i p fun d S1 ρ1 G1 H1 v m n i1 r p1 => p1 v ρ1 G1 H1 m.toS i1.nx ⟨i1.base, i1.old⟩ r⟩
theorem ds_retN : DS X cls W (.Return none pos) sRetN := PS.weak ps_retN fun D σ H ⟨en, Γ, S, ρ, G, i, p⟩ => p .non ρ G H i.mem.toS i.nx ⟨i.base, i.old⟩ (rep_non.mpr rfl)
/-- the slot's object is returned -/
def sRetO (i : Nat) : Ds := fun Γ S => match Γ[i]? with | some (.own d) => .ret d S | _ => .stuck
/-- a slot's object is settled -/
theorem SI.settle {C : Cn} {en : Ent} {Γ : List Sl} {S : List D} {ρ : List Addr} {G H : Hp} {σ : L2.St} (s : SI C en Γ S ρ G H σ) {i : Nat} {d : D} (h : Γ[i]? = some (.own d)) : ∃ G', SI C en (Γ.set i (.val d)) S ρ G' H σ ∧ Sub G G' := by
  obtain ⟨a, e, r, hg, na⟩ := s.mem.own i d h
  obtain ⟨o, ho⟩ := r.some
  have hl : i < Γ.length := (List.getElem?_eq_some_iff.mp h).1
  have k : Sub G (upd G a o) := fun b u q => by rw [upd_ne (ne_of_none q hg)]; exact q
  have he : en.H a = none := s.frs i d a h e
  have spl : ∀ (j : Nat) (x : Sl), (Γ.set i (Sl.val d))[j]? = some x → (i = j ∧ x = .val d) ∨ (i ≠ j ∧ Γ[j]? = some x) := fun j x q => by
    by_cases z : i = j
    · subst z; rw [List.getElem?_set_self hl] at q; cases q; exact .inl ⟨rfl, rfl⟩
    · rw [List.getElem?_set_ne z] at q; exact .inr ⟨z, q⟩
  refine ⟨upd G a o, ⟨⟨s.mem.sub.put ho (ho ▸ r.plain), fun j d' q => ?_, fun j d' q => ?_, fun j l d1 d2 b q1 q2 e1 e2 => ?_, fun j d' q => ?_, fun b q => ?_, s.mem.len, s.mem.nd, by rw [List.length_set]; exact s.mem.wid, fun j x q => by
    rcases spl j _ q with ⟨z, y⟩ | ⟨z, y⟩
    · cases y
    · exact ⟨(s.mem.xcp j x y).1, (s.mem.xcp j x y).2.mono k (List.prefix_refl _)⟩⟩, ⟨s.nx.pre, s.nx.ext.trans k, fun b u q => ?_, s.nx.keep, s.nx.live, s.nx.fre⟩, fun j d' b q1 q2 => ?_, s.base.trans k, s.basr, s.old⟩, k⟩
  · rcases spl j _ q with ⟨z, y⟩ | ⟨z, y⟩
    · subst z
      cases y
      refine ⟨_, e, ObAt.rep (r.mono k (List.prefix_refl _) fun u q => ?_)⟩
      rw [ho] at q; cases q; exact upd_same
    · obtain ⟨v, e1, r1⟩ := s.mem.val j d' y
      exact ⟨v, e1, r1.mono k (List.prefix_refl _)⟩
  · rcases spl j _ q with ⟨z, y⟩ | ⟨z, y⟩
    · cases y
    · obtain ⟨b, e1, r1, g1, n1⟩ := s.mem.own j d' y
      have ne : b ≠ a := fun w => by
        subst w
        exact z (s.mem.inj i j d d' b h y e e1)
      exact ⟨b, e1, r1.mono k (List.prefix_refl _) fun _ q => q, by rw [upd_ne ne]; exact g1, n1⟩
  · rcases spl j _ q1 with ⟨z, y⟩ | ⟨z, y⟩
    · cases y
    · rcases spl l _ q2 with ⟨z2, y2⟩ | ⟨z2, y2⟩
      · cases y2
      · exact s.mem.inj j l d1 d2 b y y2 e1 e2
  · obtain ⟨b, e1, r1⟩ := s.mem.sto j d' q
    exact ⟨b, e1, r1.mono k (List.prefix_refl _) fun _ q => q⟩
  · rw [upd_ne (fun z => na (by rw [← z]; exact q))]; exact s.mem.stG b q
  · by_cases z : b = a
    · subst z; exact .inr he
    · rw [upd_ne z] at q; exact s.nx.new b u q
  · rcases spl j _ q1 with ⟨z, y⟩ | ⟨z, y⟩
    · cases y
    · exact s.frs j d' b y q2
theorem ds_retO (i : Nat) {x : Str} {p2 : Pos} (hN : X.N[i]? = some x := by rfl) (hv : Vis X.env.scope x := by first | exact Or.inl rfl | exact Or.inr (Or.inl rfl) | exact Or.inr (Or.inr rfl)) (hd : (x == ("__debug__" : Str)) = false := by decide)
    (hcd : (x == ("__classdict__" : Str)) = false := by decide) : DS X cls W (.Return (some (.Name x p2)) pos) (sRetO i) := PS.weak (ps_ret (pv i hN hv hd hcd)) fun D σ H ⟨en, Γ, S, ρ, G, s, p⟩ => by
  unfold sRetO at p
  split at p
  · rename_i d hd
    obtain ⟨a, e, r, _, _⟩ := s.mem.own i d hd
    obtain ⟨G', s', _⟩ := s.settle hd
    have hl : i < Γ.length := (List.getElem?_eq_some_iff.mp hd).1
    obtain ⟨v, e1, r1⟩ := s'.mem.val i d (List.getElem?_set_self hl)
    rw [e] at e1; cases e1
    exact ⟨_, e, p _ ρ G' H s'.mem.toS s'.nx ⟨s'.base, s'.old⟩ r1⟩
  · exact p.elim
/-- settling, as nothing of the program does it: ahead of a statement -/
def sSettle (i : Nat) : Ds := fun Γ S => match Γ[i]? with | some (.own d) => .next (Γ.set i (.val d)) S | _ => .stuck
theorem dss_settle (i : Nat) (h : DSs X cls W sts δ) : DSs X cls W sts (sSeq (sSettle i) δ) := PSs.weak h fun D σ H ⟨en, Γ, S, ρ, G, s, p⟩ => by
  unfold sSeq sSettle at p
  cases q : Γ[i]? with
  | none => rw [q] at p; exact p.elim
  | some z =>
    rw [q] at p
    cases z with
    | own d =>
      obtain ⟨G', s', _⟩ := s.settle q
      exact ⟨en, _, S, ρ, G', s', p⟩
    | val d => exact p.elim
    | non => exact p.elim
    | xcp x => exact p.elim
/-- forgetting slots -/
def clr : List Nat → List Sl → List Sl
  | [], Γ => Γ
  | i :: r, Γ => clr r (Γ.set i .non)
theorem SI.clr {C : Cn} {en : Ent} {S : List D} {ρ : List Addr} {G H : Hp} {σ : L2.St} : ∀ {kl : List Nat} {Γ : List Sl}, SI C en Γ S ρ G H σ → SI C en (DL.clr kl Γ) S ρ G H σ
  | [], _, s => s
  | i :: r, _, s => SI.clr (kl := r) (s.forget i)
theorem ds_set {i : Nat} {x : Str} {pos' : Pos} (hN : X.N.Nodup) (hi : X.N[i]? = some x) (hx : Loc X.env.scope x) (h : DE X cls W e ε) (hs : swapsWith e (some (.Name x pos')) pos.line X.env = pure false := by rfl)
    (hf : X.fn x = true ∨ X.env.scope.names.lookup x = some .local := by first | exact .inl rfl | exact .inr rfl | assumption) : DS X cls W (.Assign [.Name x pos'] e pos) (sSet i ε) := PS.weak (ps_set hN hi hx h hs hf) fun D σ H ⟨en, Γ, S, ρ, G, s, p⟩ =>
  ⟨Γ, S, ρ, G, s.mem, post_after s p fun d S1 ρ1 G1 H1 v m n s1 r p1 => p1 _ _ _ _ (s1.setv i r)⟩
theorem ds_own {i : Nat} {x : Str} {pos' : Pos} (hN : X.N.Nodup) (hi : X.N[i]? = some x) (hx : Loc X.env.scope x) (h : DF X cls W e ε) (hs : swapsWith e (some (.Name x pos')) pos.line X.env = pure false := by rfl)
    (hf : X.fn x = true ∨ X.env.scope.names.lookup x = some .local := by first | exact .inl rfl | exact .inr rfl | assumption) : DS X cls W (.Assign [.Name x pos'] e pos) (sOwn i ε) := PS.weak (ps_set hN hi hx h hs hf) fun D σ H ⟨en, Γ, S, ρ, G, s, p⟩ =>
  ⟨Γ, S, ρ, G, s.mem, post_after s p fun d S1 ρ1 G1 H1 v m n s1 r p1 => by
    obtain ⟨a, rfl, na, h0, hg, r⟩ := r
    exact p1 _ _ _ _ (s.seto i n m na h0 hg r)⟩
theorem ds_if {a b : List Stmt} (hc : DT X cls W c τ) (ha : DSs X cls W a δ1) (hb : DSs X cls W b δ2) : DS X cls W (.If c a b pos) (sIf τ δ1 δ2) := PS.weak (ps_if hc ha hb) fun D σ H ⟨en, Γ, S, ρ, G, s, p⟩ =>
  ⟨Γ, S, ρ, G, s.mem, post_after s p fun d S1 ρ1 G1 H1 v m n s1 r p1 => by
    have e1 : d = v := r
    subst e1
    cases d with
    | true => exact iteT ⟨en, Γ, S1, ρ1, G1, s1, p1⟩
    | false => exact iteF ⟨en, Γ, S1, ρ1, G1, s1, p1⟩⟩
end

/-! ### a def -/
def bodyRun (n : Nat) (δ : Ds) : List D → List D → Res D := fun ds S => match δ (ds.map Sl.val ++ List.replicate (n - ds.length) Sl.non) S with
  | .next _ S' => .ok .non S'
  | .ret d S' => .ok d S'
  | .exc e _ S' => .exc e S'
  | _ => .stuck
def spD (C : Cn) (np : Nat) (F : List D → List D → Res D) : Sp := fun vs H Q E => ∃ S ρ G ds, MemS C S ρ G H ∧ Reps C ρ G ds vs ∧ vs.length = np ∧ match F ds S with
  | .ok d S' => ∀ v ρ' G' H', MemS C S' ρ' G' H' → Nx ρ G H ρ' G' H' → Rep C ρ' G' d v → Q v H'
  | .exc e S' => ∀ cls dx ρ' G' H', MemS C S' ρ' G' H' → Nx ρ G H ρ' G' H' → ExRep C ρ' G' H' e cls dx → E cls dx H'
  | .stuck => False
section
variable {P : Program} {w : World} {K : PySem.W.Frag} {mg : Str → Option Value} {base : Heap} {cls : Nat → Addr}
theorem start_mem {C : Cn} {S : List D} {ρ : List Addr} {G H : Hp} {ds : List D} {vs : List V} {N : List Str} (m : MemS C S ρ G H) (r : Reps C ρ G ds vs) : Mem C (ds.map Sl.val ++ List.replicate (N.length - ds.length) Sl.non) S ρ G H (L2.start N vs) := by
  have no : ∀ (i : Nat) (d : D), (ds.map Sl.val ++ List.replicate (N.length - ds.length) Sl.non)[i]? ≠ some (Sl.own d) := fun i d h => by
    have hm := List.mem_of_getElem? h
    rcases List.mem_append.mp hm with z | z
    · obtain ⟨_, _, e⟩ := List.mem_map.mp z; cases e
    · cases (List.eq_of_mem_replicate z)
  refine ⟨m.sub, fun i d h => ?_, fun i d h => absurd h (no i d), fun i j d d' a h => absurd h (no i d), m.sto, m.stG, m.len, m.nd, ?_, fun i x h => ?_⟩
  · by_cases hi : i < ds.length
    · rw [List.getElem?_append_left (by simpa using hi), List.getElem?_map] at h
      cases e : ds[i]? with
      | none => rw [e] at h; cases h
      | some d0 =>
        rw [e] at h; cases h
        obtain ⟨v, hv, rv⟩ := r.get e
        refine ⟨v, ?_, rv⟩
        unfold L2.start
        rw [List.getElem?_append_left (by simpa [← r.length] using hi), List.getElem?_map, hv]
        rfl
    · rw [List.getElem?_append_right (by simpa using hi), List.getElem?_replicate] at h
      split at h <;> cases h
  · unfold L2.start
    rw [List.length_append, List.length_append, List.length_map, List.length_map, List.length_replicate, List.length_replicate, r.length]
  · exfalso
    have hm := List.mem_of_getElem? h
    rcases List.mem_append.mp hm with z | z
    · obtain ⟨_, _, e⟩ := List.mem_map.mp z; cases e
    · cases (List.eq_of_mem_replicate z)
theorem def_ok {x qual : Str} {st : Stmt} {f : Addr} {fd : FuncData} {N ps : List Str} {k : Nat} {δ : Ds} (F : Fun K x qual st f fd) (Sc : FnScope N ps (defScope st))
    (hbody : ∀ (cdv : Value) (A : Around) (outer : List Env) (s : Shared) (H : Hp) (E : XK), Room k (A.deeper (envOfC qual (defScope st) s.heap.objs.size f cdv)) →
      DSs (cxOf (L2.CX P w) P w K mg base N qual (defScope st) f cdv A outer s H E) cls (fun c d _ H => E c d H) (defBody st) δ) : FnOk P w K mg base (L2.CX P w) (k + 1) f fd ps (spD ⟨K, cls⟩ ps.length (bodyRun N.length δ)) := by
  refine F.okX Sc (fun vs H Q E h => ?_) (fun cdv A outer s H vs Q E hr h => ⟨_, hbody cdv A outer s H E hr, ?_⟩)
  · obtain ⟨_, _, _, _, _, _, h, _⟩ := h; exact h
  · obtain ⟨S, ρ, G, ds, m, r, hl, h⟩ := h
    refine ⟨⟨ρ, G, H, G, ρ, H⟩, _, S, ρ, G, ⟨start_mem m r, .refl, fun i d a h1 h2 => ?_, .refl, List.prefix_refl _, .refl⟩, ?_⟩
    · exfalso
      have hm := List.mem_of_getElem? h1
      rcases List.mem_append.mp hm with z | z
      · obtain ⟨_, _, e⟩ := List.mem_map.mp z; cases e
      · cases (List.eq_of_mem_replicate z)
    · unfold bodyRun at h
      cases q : δ (ds.map Sl.val ++ List.replicate (N.length - ds.length) Sl.non) S with
      | next Γ S' => rw [q] at h; exact fun ρ' G' H' σ' s' => h .non ρ' G' H' s'.mem.toS s'.nx (rep_non.mpr rfl)
      | ret d S' => rw [q] at h; exact fun v ρ' G' H' m' n' _ r' => h v ρ' G' H' m' n' r'
      | exc e Γ S' => rw [q] at h; exact fun c dx ρ' G' H' σ' s' er => h c dx ρ' G' H' s'.mem.toS s'.nx er
      | brk _ _ => rw [q] at h; exact h.elim
      | cont _ _ => rw [q] at h; exact h.elim
      | stuck => rw [q] at h; exact h.elim
end
/-! ### a call -/
section
variable {X : Cx} {cls : Nat → Addr} {W : WX} {k : Nat} {f : Addr} {fd : FuncData} {ps : List Str} {x : Str} {p pos : Pos} {e : Expr} {es : List Expr} {α : Da} {F : List D → List D → Res D}
theorem de_call (Fn : FnOk X.prog X.w X.K X.mg X.base (L2.CX X.prog X.w) k f fd ps (spD ⟨X.K, cls⟩ ps.length F)) (tk : Takes X W) (hr : Room k X.A) (hg : Gl X x) (hm : X.mg x = some (.ref f)) (hk : PySem.W.keepIn X.K (.ref f) = true) (hb : Binds X.K fd ps [])
    (ha : DA X cls W (e :: es) α) (hal : ALen α ps.length) (hdb : (x == ("__debug__" : Str)) = false := by decide) (he : starEach (e :: es) X.env = (false, eval e X.env) :: starEach es X.env := by rfl) (hpl : (backTo pos (starEach es X.env)).any (·.1) = false := by rfl) :
    DE X cls W (.Call (.Name x p) (e :: es) [] pos) (eCall F α) := PE.weak (pe_callS Fn hr hg hm hk hb (fun σ => passAt tk σ) ha hdb he hpl) fun σ H Q ⟨Γ, S, ρ, G, m, p⟩ => ⟨Γ, S, ρ, G, m, by
  unfold eCall at p
  cases q : α Γ S with
  | ok ds S1 =>
    rw [q] at p
    intro vs ρ1 G1 H1 m1 n1 r1
    refine ⟨S1, ρ1, G1, ds, m1.toS, r1, by rw [← r1.length]; exact hal.le _ _ _ _ q, ?_⟩
    simp only [Res.bind_ok] at p
    cases z : F ds S1 with
    | ok d S2 => rw [z] at p; exact fun v ρ2 G2 H2 m2 n2 r2 => p v ρ2 G2 H2 (m1.step n2 m2) (n1.trans n2) r2
    | exc x S2 => rw [z] at p; exact fun c dx ρ2 G2 H2 m2 n2 r2 => p c dx ρ2 G2 H2 (m1.step n2 m2) (n1.trans n2) r2
    | stuck => rw [z] at p; exact p
  | exc x S1 => rw [q] at p; exact p
  | stuck => rw [q] at p; exact p⟩
end
end DL

namespace DL
open PySem PySem.Spec PyProof.Rows L2

section
variable {C : Cn} {W : WX} {en : Ent} {Γ Γ' : List Sl} {S S' : List D} {ρ ρ' : List Addr} {G G' H H' : Hp} {σ σ' : L2.St} {a : Addr} {d d' : D} {k : Nat} {o : HO}
theorem ObAt.at {b : Addr} (h : ObAt C ρ G H b d) (ne : b ≠ a) : ObAt C ρ G (upd H a o) b d := h.mono .refl (List.prefix_refl _) fun u q => by rw [upd_ne ne]; exact q
/-- an object that no slot, no store and no settled data has -/
theorem Mem.aside (m : Mem C Γ S ρ G H σ) (hg : G a = none) (ht : NoTE (H a)) (hp : a ∉ ρ) (ho : ∀ (i : Nat) (d : D) (b : Addr), Γ[i]? = some (Sl.own d) → σ[i]? = some (some (V.ref b)) → b ≠ a) : Mem C Γ S ρ G (upd H a o) σ where
  sub := m.sub.upd hg ht
  val := m.val
  own := fun i d h => by
    obtain ⟨b, e, r, g, n⟩ := m.own i d h
    exact ⟨b, e, r.at (ho i d b h e), g, n⟩
  inj := m.inj
  sto := fun i d h => by
    obtain ⟨b, e, r⟩ := m.sto i d h
    exact ⟨b, e, r.at fun z => hp (z ▸ List.mem_of_getElem? e)⟩
  stG := m.stG
  len := m.len
  nd := m.nd
  wid := m.wid
  xcp := m.xcp
theorem Nx.aside (n : Nx ρ G H ρ' G' H') (h : H a = none) : Nx ρ G H ρ' G' (upd H' a o) := ⟨n.pre, n.ext, n.new, fun b u t q nb => by rw [upd_ne (ne_of_none q h)]; exact n.keep b u t q nb, fun b q => by
  by_cases e : b = a
  · subst e; exact h
  · rw [upd_ne e] at q; exact n.live b q, n.fre⟩
/-- the store's object is written -/
theorem Mem.poke (m : Mem C Γ S ρ G H σ) {d0 : D} (hk : S[k]? = some d0) (ha : ρ[k]? = some a) (r : ObAt C ρ G (upd H a o) a d') : Mem C Γ (S.set k d') ρ G (upd H a o) σ ∧ Nx ρ G H ρ G (upd H a o) := by
  have am : a ∈ ρ := List.mem_of_getElem? ha
  have hg : G a = none := m.stG a am
  obtain ⟨_, hb0, rb0⟩ := m.sto k d0 hk
  rw [ha] at hb0; cases hb0
  refine ⟨⟨m.sub.upd hg rb0.plain, m.val, fun i d h => ?_, m.inj, fun i d h => ?_, m.stG, by rw [List.length_set]; exact m.len, m.nd, m.wid, m.xcp⟩,
    ⟨List.prefix_refl _, .refl, fun _ _ h => .inl h, fun b u _ q nb => by rw [upd_ne (fun z => nb (by rw [z]; exact am))]; exact q, fun b q => ?_, fun _ h => .inl h⟩⟩
  · obtain ⟨b, e, q, g, n⟩ := m.own i d h
    exact ⟨b, e, q.at fun z => n (z ▸ am), g, n⟩
  · by_cases e : k = i
    · subst e
      have hl : k < S.length := (List.getElem?_eq_some_iff.mp hk).1
      rw [List.getElem?_set_self hl] at h; cases h
      exact ⟨a, ha, r⟩
    · rw [List.getElem?_set_ne e] at h
      obtain ⟨b, e2, q⟩ := m.sto i d h
      refine ⟨b, e2, q.at fun z => e ?_⟩
      subst z
      obtain ⟨h1, e3⟩ := List.getElem?_eq_some_iff.mp ha
      obtain ⟨h2, e4⟩ := List.getElem?_eq_some_iff.mp e2
      exact (List.getElem_inj m.nd).mp (e3.trans e4.symm)
  · by_cases e : b = a
    · subst e; rw [upd_same] at q; cases q
    · rw [upd_ne e] at q; exact q
/-- a slot's own object is written -/
theorem SI.poke (s : SI C en Γ S ρ G H σ) {i : Nat} {d0 : D} (hi : Γ[i]? = some (Sl.own d0)) (ha : σ[i]? = some (some (V.ref a))) (r : ObAt C ρ G (upd H a o) a d') : SI C en (Γ.set i (.own d')) S ρ G (upd H a o) σ := by
  obtain ⟨b, e, q, hg, hp⟩ := s.mem.own i d0 hi
  rw [ha] at e; cases e
  have hl : i < Γ.length := (List.getElem?_eq_some_iff.mp hi).1
  have he : en.H a = none := s.frs i d0 a hi ha
  have spl : ∀ (j : Nat) (x : Sl), (Γ.set i (Sl.own d'))[j]? = some x → (i = j ∧ x = .own d') ∨ (i ≠ j ∧ Γ[j]? = some x) := fun j x q => by
    by_cases z : i = j
    · subst z; rw [List.getElem?_set_self hl] at q; cases q; exact .inl ⟨rfl, rfl⟩
    · rw [List.getElem?_set_ne z] at q; exact .inr ⟨z, q⟩
  have back : ∀ (j : Nat) (d1 : D), (Γ.set i (Sl.own d'))[j]? = some (Sl.own d1) → ∃ d2, Γ[j]? = some (Sl.own d2) := fun j d1 h => by
    rcases spl j _ h with ⟨z, _⟩ | ⟨_, y⟩
    · subst z; exact ⟨_, hi⟩
    · exact ⟨_, y⟩
  refine ⟨⟨s.mem.sub.upd hg q.plain, fun j d1 h => ?_, fun j d1 h => ?_, fun j l d1 d2 b h1 h2 e1 e2 => ?_, fun j d1 h => ?_, s.mem.stG, s.mem.len, s.mem.nd, by rw [List.length_set]; exact s.mem.wid, fun j x h => by
    rcases spl j _ h with ⟨_, y⟩ | ⟨_, y⟩
    · cases y
    · exact s.mem.xcp j x y⟩, s.nx.aside he, fun j d1 b h1 h2 => ?_, s.base, s.basr, fun b ob u h => by rw [upd_ne (fun z => q.nofrz (by rw [← z]; exact s.old _ _ _ h))]; exact s.old _ _ _ h⟩
  · rcases spl j _ h with ⟨_, y⟩ | ⟨_, y⟩
    · cases y
    · exact s.mem.val j d1 y
  · rcases spl j _ h with ⟨z, y⟩ | ⟨z, y⟩
    · subst z; cases y; exact ⟨a, ha, r, hg, hp⟩
    · obtain ⟨b, e1, q1, g1, n1⟩ := s.mem.own j d1 y
      exact ⟨b, e1, q1.at fun w => z (s.mem.inj i j d0 d1 b hi y (w ▸ ha) e1), g1, n1⟩
  · obtain ⟨_, y1⟩ := back j d1 h1
    obtain ⟨_, y2⟩ := back l d2 h2
    exact s.mem.inj j l _ _ b y1 y2 e1 e2
  · obtain ⟨b, e1, q1⟩ := s.mem.sto j d1 h
    exact ⟨b, e1, q1.at fun z => hp (z ▸ List.mem_of_getElem? e1)⟩
  · obtain ⟨_, y1⟩ := back j d1 h1
    exact s.frs j _ b y1 h2
end

section
variable {X : Cx} {cls : Nat → Addr} {W : WX} {st : Stmt} {sts : List Stmt} {e c a b : Expr} {pos : Pos} {δ δ1 δ2 : Ds} {ε ε1 ε2 δa : De} {τ : Dt}
/-- a new list that goes into the store -/
theorem de_box (h : DF X cls W e ε) : DE X cls W e (eBox ε) := PE.weak h fun σ H Q ⟨Γ, S, ρ, G, m, p⟩ => ⟨Γ, S, ρ, G, m, by
  unfold eBox at p
  cases q : ε Γ S with
  | ok d S1 =>
    rw [q] at p
    intro v ρ1 G1 H1 m1 n1 r1
    obtain ⟨a, rfl, na, h0, hg, r⟩ := r1
    have k : ρ1 <+: ρ1 ++ [a] := List.prefix_append _ _
    refine p _ (ρ1 ++ [a]) G1 H1 ⟨m1.sub, fun i d h => ?_, fun i d h => ?_, m1.inj, fun i d h => ?_, fun b hb => ?_, by rw [List.length_append, List.length_append, m1.len] <;> rfl, ?_, m1.wid, fun i x h => ⟨(m1.xcp i x h).1, (m1.xcp i x h).2.mono .refl k⟩⟩ ⟨n1.pre.trans k, n1.ext, n1.new, n1.keep, n1.live, fun b hb => ?_⟩ (rep_ptr.mpr ⟨a, ?_, rfl⟩)
    · obtain ⟨v, e, r⟩ := m1.val i d h
      exact ⟨v, e, r.mono .refl k⟩
    · obtain ⟨b, e, r, g, n⟩ := m1.own i d h
      obtain ⟨b0, e0, r0, _, _⟩ := m.own i d h
      rw [e] at e0; cases e0
      obtain ⟨u, hu⟩ := r0.some
      refine ⟨b, e, r.mono .refl k fun _ h => h, g, fun z => ?_⟩
      rcases List.mem_append.mp z with z | z
      · exact n z
      · rw [List.mem_singleton] at z
        rw [z, h0] at hu; cases hu
    · by_cases hi : i < S1.length
      · rw [List.getElem?_append_left hi] at h
        obtain ⟨b, e, r⟩ := m1.sto i d h
        exact ⟨b, by rw [List.getElem?_append_left (by rw [m1.len]; exact hi)]; exact e, r.mono .refl k fun _ h => h⟩
      · rw [List.getElem?_append_right (by omega)] at h
        have e0 : i - S1.length = 0 := by
          have := (List.getElem?_eq_some_iff.mp h).1
          simp only [List.length_singleton] at this; omega
        rw [e0] at h
        cases h
        have e1 : i = ρ1.length := by rw [m1.len]; omega
        subst e1
        exact ⟨a, by rw [List.getElem?_append_right (Nat.le_refl _), Nat.sub_self] <;> rfl, r.mono .refl k fun _ h => h⟩
    · rcases List.mem_append.mp hb with z | z
      · exact m1.stG b z
      · rw [List.mem_singleton] at z; subst z; exact hg
    · rw [List.nodup_append]
      refine ⟨m1.nd, by simp, fun x hx y hy => ?_⟩
      rw [List.mem_singleton] at hy; subst hy
      exact fun z => na (z ▸ hx)
    · rcases List.mem_append.mp hb with z | z
      · exact n1.fre b z
      · rw [List.mem_singleton] at z; subst z; exact .inr h0
    · rw [← m1.len, List.getElem?_append_right (Nat.le_refl _), Nat.sub_self] <;> rfl
  | exc x S1 => rw [q] at p; exact p
  | stuck => rw [q] at p; exact p⟩
/-! ### lists that change -/
theorem own_at {C : Cn} {en : Ent} {Γ : List Sl} {S : List D} {ρ : List Addr} {G H : Hp} {σ : L2.St} (s : SI C en Γ S ρ G H σ) {i : Nat} {xs : List D} (h : Γ[i]? = some (.own (.lst xs))) : ∃ a vs, σ[i]? = some (some (V.ref a)) ∧ H a = some (.lst vs) ∧ Reps C ρ G xs vs ∧ G a = none ∧ a ∉ ρ := by
  obtain ⟨a, e, ⟨vs, h1, r⟩, g, n⟩ := s.mem.own i _ h
  exact ⟨a, vs, e, h1, r, g, n⟩
/-- found.append(e) -/
def sAppO (i : Nat) (e : De) : Ds := fun Γ S => match Γ[i]? with
  | some (.own (.lst xs)) => after (e Γ S) Γ fun d S1 => if xs.length < sizeLine then .next (Γ.set i (.own (.lst (xs ++ [d])))) S1 else .stuck
  | _ => .stuck
theorem ds_appO (i : Nat) (h : PE X c (tBM X.K "list" rAppend (tVar i) (tCons (tE ⟨X.K, cls⟩ W (RS ⟨X.K, cls⟩) ε) tNil))) (hs : swapsWith c none pos.line X.env = pure false := by rfl) : DS X cls W (.Expr c pos) (sAppO i ε) :=
  PS.weak (ps_expr h hs) fun D σ H ⟨en, Γ, S, ρ, G, s, p⟩ => by
    unfold sAppO at p
    split at p
    · rename_i xs hx
      obtain ⟨a, vs, e, h1, r, g, n⟩ := own_at s hx
      refine ⟨_, e, .inl ⟨rfl, vs, SqL.of h1⟩, Γ, S, ρ, G, s.mem, post_after s p fun d S1 ρ1 G1 H1 v m1 n1 s1 r1 p1 => ?_⟩
      obtain ⟨a', vs', e', h1', r', g', n'⟩ := own_at s1 hx
      rw [e] at e'; cases e'
      split at p1
      · rename_i hl
        refine ⟨a, vs', v, rfl, rfl, h1', by rw [← r'.length]; exact hl, ?_⟩
        exact p1 _ _ _ _ (s1.poke hx e ⟨_, upd_same, r'.append (.cons r1 .nil)⟩)
      · exact p1.elim
    · exact p.elim
/-- found[k] = e -/
def sSetO (i : Nat) (k e : De) : Ds := fun Γ S => after (e Γ S) Γ fun d S1 => match Γ[i]? with
  | some (.own (.lst xs)) => after (k Γ S1) Γ fun x S2 => match (asI x).bind (ixN xs.length) with
    | some j => .next (Γ.set i (.own (.lst (xs.set j d)))) S2
    | none => .stuck
  | _ => .stuck
theorem Reps.setv {C : Cn} {ρ : List Addr} {G : Hp} {d : D} {v : V} {xs : List D} {vs : List V} (r : Reps C ρ G xs vs) (k : Rep C ρ G d v) (j : Nat) : Reps C ρ G (xs.set j d) (vs.set j v) := Reps.set k j r
theorem ds_setO (i : Nat) {tg : Expr} (hg : PG X tg (gSub (tVar i) (tE ⟨X.K, cls⟩ W (RS ⟨X.K, cls⟩) ε1) rSetL)) (he : DE X cls W e ε2) (hs : swapsWithSole [tg] e pos.line X.env = pure false := by rfl) (hw : swappedStores [tg] e X.env = pure none := by rfl) (h1 : (assignEach [tg] X.env).map (·.2) = [assign tg X.env] := by rfl) :
    DS X cls W (.Assign [tg] e pos) (sSetO i ε1 ε2) := PS.weak (ps_asg he hg hs hw h1) fun D σ H ⟨en, Γ, S, ρ, G, s, p⟩ => ⟨Γ, S, ρ, G, s.mem, post_after s p fun d S1 ρ1 G1 H1 v m1 n1 s1 r1 p1 => by
  split at p1
  · rename_i xs hx
    obtain ⟨a, vs, e, h1, r, g, n⟩ := own_at s1 hx
    refine ⟨_, e, Γ, S1, ρ1, G1, s1.mem, post_after s1 p1 fun d2 S2 ρ2 G2 H2 v2 m2 n2 s2 r2 p2 => ?_⟩
    obtain ⟨a', vs', e', h1', r', g', n'⟩ := own_at s2 hx
    rw [e] at e'; cases e'
    cases d2 with
    | int k =>
      have ek := rep_int.mp r2
      subst ek
      split at p2
      · rename_i j hj
        exact ⟨a, vs', k, j, rfl, rfl, h1', by rw [← r'.length]; exact hj, p2 _ _ _ _ (s2.poke hx e ⟨_, upd_same, r'.setv (r1.mono n2.ext n2.pre) j⟩)⟩
      · exact p2.elim
    | _ => exact p2.elim
  · exact p1.elim⟩
/-! .. in the store -/
def sSetP (o k e : De) : Ds := fun Γ S => after (e Γ S) Γ fun d S1 => after (o Γ S1) Γ fun x S2 => after (k Γ S2) Γ fun y S3 => match x with
  | .ptr q => match S3[q]? with
    | some (.lst xs) => match (asI y).bind (ixN xs.length) with
      | some j => .next Γ (S3.set q (.lst (xs.set j d)))
      | none => .stuck
    | _ => .stuck
  | _ => .stuck
theorem sto_at {C : Cn} {Γ : List Sl} {S : List D} {ρ : List Addr} {G H : Hp} {σ : L2.St} (m : Mem C Γ S ρ G H σ) {q : Nat} {v : V} {xs : List D} (r : Rep C ρ G (.ptr q) v) (h : S[q]? = some (.lst xs)) : ∃ a vs, v = V.ref a ∧ ρ[q]? = some a ∧ H a = some (.lst vs) ∧ Reps C ρ G xs vs := by
  obtain ⟨a, ha, rfl⟩ := rep_ptr.mp r
  obtain ⟨b, hb, vs, h1, h2⟩ := m.sto q _ h
  rw [ha] at hb; cases hb
  exact ⟨a, vs, rfl, ha, h1, h2⟩
theorem ds_setP {tg : Expr} (hg : PG X tg (gSub (tE ⟨X.K, cls⟩ W (RS ⟨X.K, cls⟩) δa) (tE ⟨X.K, cls⟩ W (RS ⟨X.K, cls⟩) ε1) rSetL)) (he : DE X cls W e ε2) (hs : swapsWithSole [tg] e pos.line X.env = pure false := by rfl) (hw : swappedStores [tg] e X.env = pure none := by rfl) (h1 : (assignEach [tg] X.env).map (·.2) = [assign tg X.env] := by rfl) :
    DS X cls W (.Assign [tg] e pos) (sSetP δa ε1 ε2) := PS.weak (ps_asg he hg hs hw h1) fun D σ H ⟨en, Γ, S, ρ, G, s, p⟩ =>
  ⟨Γ, S, ρ, G, s.mem, post_after s p fun d S1 ρ1 G1 H1 v m1 n1 s1 r1 p1 => ⟨Γ, S1, ρ1, G1, s1.mem, post_after s1 p1 fun dx S2 ρ2 G2 H2 x m2 n2 s2 r2 p2 => ⟨Γ, S2, ρ2, G2, s2.mem, post_after s2 p2 fun dy S3 ρ3 G3 H3 y m3 n3 s3 r3 p3 => by
    cases dx with
    | ptr q =>
      simp only at p3
      split at p3
      · rename_i xs hx
        obtain ⟨a, vs, rfl, ha, h1, rr⟩ := sto_at m3 (Rep.mono n3.ext n3.pre _ _ r2) hx
        cases dy with
        | int k =>
          have ek := rep_int.mp r3
          subst ek
          split at p3
          · rename_i j hj
            obtain ⟨m4, n4⟩ := m3.poke (a := a) (o := .lst (vs.set j v)) (d' := .lst (xs.set j d)) hx ha ⟨_, upd_same, rr.setv ((r1.mono n2.ext n2.pre).mono n3.ext n3.pre) j⟩
            exact ⟨a, vs, k, j, rfl, rfl, h1, by rw [← rr.length]; exact hj, p3 _ _ _ _ (s3.step m4 n4)⟩
          · exact p3.elim
        | _ => exact p3.elim
      · exact p3.elim
    | _ => exact p3.elim⟩⟩⟩
/-! ### x += e -/
def sAug (i : Nat) (f : D → D → Option D) (e : De) : Ds := fun Γ S => match Γ[i]? with
  | some (.val dx) => after (e Γ S) Γ fun dy S1 => match f (deref S1 dx) (deref S1 dy) with
    | some d => .next (Γ.set i (.val d)) S1
    | none => .stuck
  | _ => .stuck
theorem ds_aug {i : Nat} {x : Str} {op : Operator} {R : R2} {f : D → D → Option D} {pos' : Pos} (hN : X.N.Nodup) (hi : X.N[i]? = some x) (hx : Loc X.env.scope x) (he : DE X cls W e ε) (ho : OpR X (inplaceOp op) R) (hf : R2Ok ⟨X.K, cls⟩ (RS ⟨X.K, cls⟩) R f)
    (hfn : X.fn x = true ∨ X.env.scope.names.lookup x = some .local := by first | exact .inl rfl | exact .inr rfl | assumption) : DS X cls W (.AugAssign (.Name x pos') op e pos) (sAug i f ε) :=
  PS.weak (ps_aug (ti := R) hN hi hx he (fun pins s σ H x y v u Q I rx ry h => ho pins s σ H x y v u Q I rx ry h) hfn) fun D σ H ⟨en, Γ, S, ρ, G, s, p⟩ => by
    unfold sAug at p
    split at p
    · rename_i dx hx
      obtain ⟨v, e, r⟩ := s.mem.val i dx hx
      refine ⟨v, e, Γ, S, ρ, G, s.mem, post_after s p fun dy S1 ρ1 G1 H1 y m1 n1 s1 r1 p1 => ?_⟩
      split at p1
      · rename_i d hd
        exact hf S1 ρ1 G1 H1 v y d _ _ _ m1.toS (m1.read (H0 := H1) (.inl (r.mono n1.ext n1.pre))) (m1.read (H0 := H1) (.inl r1)) hd fun z ρ2 G2 H2 m2 n2 r2 => p1 _ _ _ _ ((s1.step (m1.step n2 m2) n2).setv i r2)
      · exact p1.elim
    · exact p.elim
def dAddI : D → D → Option D
  | .int i, .int j => some (.int (i + j))
  | .str a, .str b => if a.length + b.length ≤ sizeLine then some (.str (a ++ b)) else none
  | _, _ => none
theorem iop_addA : OpR X (inplaceOp .Add) (fun x y H Q => rI0 (fun i j => .int (i + j)) x y H Q ∨ ∃ i j, x = .str i ∧ y = .str j ∧ i.length + j.length ≤ sizeLine ∧ Q (.str (i ++ j)) H) := iop_add.or iop_add_str
theorem ok_addI {C : Cn} : R2Ok C (RS C) (fun x y H Q => rI0 (fun i j => .int (i + j)) x y H Q ∨ ∃ i j, x = .str i ∧ y = .str j ∧ i.length + j.length ≤ sizeLine ∧ Q (.str (i ++ j)) H) dAddI := ok_I0.or (g := dAddI) ok_S fun a b d h => by
  cases a <;> cases b <;> first | exact .inl h | exact .inr h | cases h
theorem ok_subI {C : Cn} : R2Ok C (RS C) (rI0 fun i j => .int (i - j)) fSub := ok_I0

/-! ### targets of loops -/
inductive Pat where
  | nm (i : Nat) | tp (ps : List Pat) | ul (ps : List Pat)
mutual
def Pat.bind : Pat → D → List Sl → Option (List Sl)
  | .nm i, d, Γ => some (Γ.set i (.val d))
  | .tp ps, .tup ds, Γ => Pat.binds ps ds Γ
  | .tp _, _, _ => none
  | .ul ps, .lst ds, Γ => Pat.binds ps ds Γ
  | .ul _, _, _ => none
def Pat.binds : List Pat → List D → List Sl → Option (List Sl)
  | [], [], Γ => some Γ
  | p :: ps, d :: ds, Γ => match p.bind d Γ with
    | some Γ' => Pat.binds ps ds Γ'
    | none => none
  | [], _ :: _, _ => none
  | _ :: _, [], _ => none
end
mutual
def Pat.g (K : PySem.W.Frag) : Pat → TG
  | .nm i => gName i
  | .tp ps => gTup K ps.length (Pat.gs K ps)
  | .ul ps => gUnl K ps.length (Pat.gs K ps)
def Pat.gs (K : PySem.W.Frag) : List Pat → TGs
  | [] => gNil
  | p :: ps => gCons (p.g K) (Pat.gs K ps)
end
mutual
def Pat.vars : Pat → List Nat
  | .nm i => [i]
  | .tp ps => Pat.varss ps
  | .ul ps => Pat.varss ps
def Pat.varss : List Pat → List Nat
  | [] => []
  | p :: ps => p.vars ++ Pat.varss ps
end
/-- what a binding keeps -/
def Kept (vs : List Nat) (σ σ' : L2.St) : Prop := σ'.length = σ.length ∧ ∀ j, j ∉ vs → σ'[j]? = σ[j]?
def BindOk (C : Cn) (g : (L2.St → Hp → Prop) → Prop) (Γ Γ' : List Sl) (S : List D) (ρ : List Addr) (G H : Hp) (σ : L2.St) (vs : List Nat) : Prop :=
  ∀ Q : L2.St → Hp → Prop, (∀ σ', Mem C Γ' S ρ G H σ' → (∀ en, SI C en Γ S ρ G H σ → SI C en Γ' S ρ G H σ') → Kept vs σ σ' → Q σ' H) → g Q
mutual
theorem Pat.ok {C : Cn} {S : List D} {ρ : List Addr} {G H : Hp} : ∀ (p : Pat) (d : D) (v : V) (Γ Γ' : List Sl) (σ : L2.St), Mem C Γ S ρ G H σ → Rep C ρ G d v → p.bind d Γ = some Γ' → BindOk C (p.g C.K v σ H) Γ Γ' S ρ G H σ p.vars
  | .nm i, d, v, Γ, Γ', σ, m, r, e, Q, q => by
    rw [Pat.bind] at e; cases e
    rw [Pat.g]
    exact q _ (m.setv i r) (fun en s => s.setv i r) ⟨by rw [List.length_set], fun j hj => by rw [Pat.vars, List.mem_singleton] at hj; rw [List.getElem?_set_ne (Ne.symm hj)]⟩
  | .tp ps, d, v, Γ, Γ', σ, m, r, e, Q, q => by
    cases d with
    | tup ds =>
      rw [Pat.bind] at e
      rw [Pat.g]
      obtain ⟨a, vs, rfl, h1, h2⟩ := rep_tup.mp r
      have hl : ds.length = ps.length := Pat.binds_len ps ds Γ Γ' e
      refine ⟨a, vs, rfl, m.sub.sqT h1, by rw [← h2.length, hl], ?_⟩
      exact Pat.oks ps ds vs Γ Γ' σ m h2 e Q q
    | _ => rw [Pat.bind] at e <;> first | cases e | simp
  | .ul ps, d, v, Γ, Γ', σ, m, r, e, Q, q => by
    cases d with
    | lst ds =>
      rw [Pat.bind] at e
      rw [Pat.g]
      obtain ⟨a, vs, rfl, h1, h2⟩ := rep_lst.mp r
      have hl : ds.length = ps.length := Pat.binds_len ps ds Γ Γ' e
      refine ⟨a, vs, rfl, SqL.of (m.sub.lst h1), by rw [← h2.length, hl], ?_⟩
      exact Pat.oks ps ds vs Γ Γ' σ m h2 e Q q
    | _ => rw [Pat.bind] at e <;> first | cases e | simp
theorem Pat.oks {C : Cn} {S : List D} {ρ : List Addr} {G H : Hp} : ∀ (ps : List Pat) (ds : List D) (vs : List V) (Γ Γ' : List Sl) (σ : L2.St), Mem C Γ S ρ G H σ → Reps C ρ G ds vs → Pat.binds ps ds Γ = some Γ' → BindOk C (Pat.gs C.K ps vs σ H) Γ Γ' S ρ G H σ (Pat.varss ps)
  | [], [], vs, Γ, Γ', σ, m, r, e, Q, q => by
    rw [Pat.binds] at e; cases e
    rw [Pat.gs]
    exact ⟨r.inv0, q σ m (fun _ s => s) ⟨rfl, fun _ _ => rfl⟩⟩
  | [], _ :: _, _, _, _, _, _, _, e, _, _ => by rw [Pat.binds] at e; cases e
  | _ :: _, [], _, _, _, _, _, _, e, _, _ => by rw [Pat.binds] at e; cases e
  | p :: ps, d :: ds, vs, Γ, Γ', σ, m, r, e, Q, q => by
    rw [Pat.binds] at e
    cases z : p.bind d Γ with
    | none => rw [z] at e; cases e
    | some Γ1 =>
      rw [z] at e
      obtain ⟨v, vr, rfl, r1, r2⟩ := r.inv
      rw [Pat.gs]
      refine ⟨v, vr, rfl, ?_⟩
      refine Pat.ok p d v Γ Γ1 σ m r1 z _ fun σ1 m1 s1 k1 => ?_
      refine Pat.oks ps ds vr Γ1 Γ' σ1 m1 r2 e Q fun σ2 m2 s2 k2 => q σ2 m2 (fun en s => s2 en (s1 en s)) ⟨k2.1.trans k1.1, fun j hj => ?_⟩
      rw [Pat.varss, List.mem_append] at hj
      rw [k2.2 j fun h => hj (.inr h), k1.2 j fun h => hj (.inl h)]
theorem Pat.binds_len : ∀ (ps : List Pat) (ds : List D) (Γ Γ' : List Sl), Pat.binds ps ds Γ = some Γ' → ds.length = ps.length
  | [], [], _, _, _ => rfl
  | [], _ :: _, _, _, e => by rw [Pat.binds] at e; cases e
  | _ :: _, [], _, _, e => by rw [Pat.binds] at e; cases e
  | p :: ps, d :: ds, Γ, Γ', e => by
    rw [Pat.binds] at e
    cases z : p.bind d Γ with
    | none => rw [z] at e; cases e
    | some Γ1 => rw [z] at e; rw [List.length_cons, List.length_cons, Pat.binds_len ps ds Γ1 Γ' e]
end
/-- a, b = e -/
def sBind (p : Pat) (e : De) : Ds := fun Γ S => after (e Γ S) Γ fun d S1 => match p.bind d Γ with | some Γ' => .next Γ' S1 | none => .stuck
theorem ds_bind {p : Pat} {tg : Expr} (he : DE X cls W e ε) (hg : PG X tg (p.g X.K)) (hs : swapsWithSole [tg] e pos.line X.env = pure false := by rfl) (hw : swappedStores [tg] e X.env = pure none := by rfl) (h1 : (assignEach [tg] X.env).map (·.2) = [assign tg X.env] := by rfl) : DS X cls W (.Assign [tg] e pos) (sBind p ε) :=
  PS.weak (ps_asg he hg hs hw h1) fun D σ H ⟨en, Γ, S, ρ, G, s, q⟩ => ⟨Γ, S, ρ, G, s.mem, post_after s q fun d S1 ρ1 G1 H1 v m1 n1 s1 r1 p1 => by
    split at p1
    · rename_i Γ' hb
      exact Pat.ok (C := ⟨X.K, cls⟩) p d v Γ Γ' σ m1 r1 hb _ fun σ' m' s' _ => p1 _ _ _ _ (s' en s1)
    · exact p1.elim⟩

/-! ### what is walked -/
structure SrcOk (C : Cn) (J : It) (xs : List D) (ρ0 : List Addr) (G0 H0 : Hp) : Prop where
  go : ∀ S ρ G H i, MemS C S ρ G H → Sub G0 G → ρ0 <+: ρ → Old H0 H → i < xs.length → J.go i H
  yld : ∀ S ρ G H i x H' d, MemS C S ρ G H → Sub G0 G → ρ0 <+: ρ → Old H0 H → xs[i]? = some d → J.yld i H x H' → ∃ G', MemS C S ρ G' H' ∧ Nx ρ G H ρ G' H' ∧ Rep C ρ G' d x
  stop : ∀ S ρ G H, MemS C S ρ G H → Sub G0 G → ρ0 <+: ρ → Old H0 H → J.stop xs.length H
def tI (C : Cn) (W : WX) (ι : Da) : TI := fun σ H R => ∃ Γ S ρ G, Mem C Γ S ρ G H σ ∧ match ι Γ S with
  | .ok xs S1 => ∀ J ρ1 G1 H1, Mem C Γ S1 ρ1 G1 H1 σ → Nx ρ G H ρ1 G1 H1 → SrcOk C J xs ρ1 G1 H1 → R J H1
  | .exc e S1 => ∀ cls dx ρ' G' H', Mem C Γ S1 ρ' G' H' σ → Nx ρ G H ρ' G' H' → ExRep C ρ' G' H' e cls dx → W cls dx σ H'
  | .stuck => False
def DI (X : Cx) (cls : Nat → Addr) (W : WX) (tg iter : Expr) (ι : Da) : Prop := PI X tg iter (tI ⟨X.K, cls⟩ W ι)
theorem PI.weak {X : Cx} {tg iter : Expr} {t t' : TI} (h : PI X tg iter t) (i : ∀ σ H R, t' σ H R → t σ H R) : PI X tg iter t' := ⟨fun pins s σ H Q I h' => h.run pins s σ H Q I (i σ H Q h')⟩
def asL : D → Option (List D) | .lst xs => some xs | _ => none
def asT : D → Option (List D) | .tup xs => some xs | _ => none
def iL (a : De) : Da := fun Γ S => (a Γ S).bind fun x S1 => ofO (asL x) S1
def iT (a : De) : Da := fun Γ S => (a Γ S).bind fun x S1 => ofO (asT x) S1
def rangeD (lo : Int) (n : Nat) : List D := (List.range n).map fun (k : Nat) => .int (lo + k)
def inR (i : Int) : Bool := decide (-(2 ^ 62) ≤ i ∧ i < 2 ^ 62)
def iR1 (a : De) : Da := fun Γ S => (a Γ S).bind fun x S1 => match asI x with | some j => if inR j then .ok (rangeD 0 j.toNat) S1 else .stuck | none => .stuck
def iR2 (a b : De) : Da := fun Γ S => (a Γ S).bind fun x S1 => (b Γ S1).bind fun y S2 => match asI x, asI y with | some i, some j => if inR i ∧ inR j then .ok (rangeD i (j - i).toNat) S2 else .stuck | _, _ => .stuck
variable {tg : Expr} {p : Pos}
theorem src_list {C : Cn} {a : Addr} {xs : List D} {vs : List V} {ρ0 : List Addr} {G0 H0 : Hp} (h : G0 a = some (.lst vs)) (q : Reps C ρ0 G0 xs vs) : SrcOk C (Itl C.K a) xs ρ0 G0 H0 where
  go := fun S ρ G H i m s _ _ hi => ⟨vs, vs[i]'(by rw [← q.length]; exact hi), SqL.of (m.sub.lst (s _ _ h)), List.getElem?_eq_getElem _⟩
  yld := fun S ρ G H i x H' d m s pr _ hd y => by
    obtain ⟨rfl, y⟩ := y
    obtain ⟨v, hv, rv⟩ := q.get hd
    have e := y vs (SqL.of (m.sub.lst (s _ _ h)))
    rw [hv] at e; cases e
    exact ⟨G, m, .refl, rv.mono s pr⟩
  stop := fun S ρ G H m s _ _ => ⟨vs, SqL.of (m.sub.lst (s _ _ h)), by rw [q.length]; exact Nat.le_refl _⟩
theorem src_tup {C : Cn} {a : Addr} {xs : List D} {vs : List V} {ρ0 : List Addr} {G0 H0 : Hp} (h : SqX C.K G0 a vs) (q : Reps C ρ0 G0 xs vs) : SrcOk C (Itt C.K a) xs ρ0 G0 H0 where
  go := fun S ρ G H i m s _ _ hi => ⟨vs, vs[i]'(by rw [← q.length]; exact hi), (m.sub.toSubA.back s).sqT h, List.getElem?_eq_getElem _⟩
  yld := fun S ρ G H i x H' d m s pr _ hd y => by
    obtain ⟨rfl, y⟩ := y
    obtain ⟨v, hv, rv⟩ := q.get hd
    have e := y vs ((m.sub.toSubA.back s).sqT h)
    rw [hv] at e; cases e
    exact ⟨G, m, .refl, rv.mono s pr⟩
  stop := fun S ρ G H m s _ _ => ⟨vs, (m.sub.toSubA.back s).sqT h, by rw [q.length]; exact Nat.le_refl _⟩
theorem src_range {C : Cn} {lo : Int} {n : Nat} {ρ0 : List Addr} {G0 H0 : Hp} : SrcOk C (Itr lo n) (rangeD lo n) ρ0 G0 H0 where
  go := fun S ρ G H i m s _ _ hi => by
    unfold rangeD at hi
    rw [List.length_map, List.length_range] at hi; exact hi
  yld := fun S ρ G H i x H' d m s pr _ hd y => by
    obtain ⟨rfl, rfl⟩ := y
    unfold rangeD at hd
    rw [List.getElem?_map] at hd
    cases z : (List.range n)[i]? with
    | none => rw [z] at hd; cases hd
    | some k =>
      rw [z] at hd; cases hd
      have e := (List.getElem?_eq_some_iff.mp z).2
      rw [List.getElem_range] at e
      subst e
      exact ⟨G, m, .refl, rep_int.mpr rfl⟩
  stop := fun S ρ G H m s _ _ => by
    unfold rangeD
    rw [List.length_map, List.length_range]; exact Nat.le_refl _
theorem x_iter {δ : De} {f : D → Option (List D)} {R : It → Hp → Prop} {σ : L2.St} {H : Hp} (h : tI ⟨X.K, cls⟩ W (fun Γ S => (δ Γ S).bind fun x S1 => ofO (f x) S1) σ H R) : ∃ Γ S ρ G, Mem ⟨X.K, cls⟩ Γ S ρ G H σ ∧ Post ⟨X.K, cls⟩ W (RS ⟨X.K, cls⟩) Γ ρ G H σ (δ Γ S) fun v H1 =>
    ∃ d xs ρ1 G1, Rep ⟨X.K, cls⟩ ρ1 G1 d v ∧ f d = some xs ∧ SubH ⟨X.K, cls⟩ G1 H1 ∧ ∀ J, SrcOk ⟨X.K, cls⟩ J xs ρ1 G1 H1 → R J H1 := by
  obtain ⟨Γ, S, ρ, G, m, p⟩ := h
  refine ⟨Γ, S, ρ, G, m, ?_⟩
  dsimp only at p
  cases q : δ Γ S with
  | ok d S1 =>
    rw [q] at p
    simp only [Res.bind_ok] at p
    cases z : f d with
    | none => rw [z] at p; exact p.elim
    | some xs =>
      rw [z] at p
      exact fun v ρ1 G1 H1 m1 n1 r1 => ⟨d, xs, ρ1, G1, r1, z, m1.sub, fun J sk => p J ρ1 G1 H1 m1 n1 sk⟩
  | exc x S1 => rw [q] at p; exact p
  | stuck => rw [q] at p; exact p
theorem di_l (h : DE X cls W e ε) : DI X cls W tg e (iL ε) := PI.weak (pi_list h) fun σ H R h => by
  obtain ⟨Γ, S, ρ, G, m, p⟩ := x_iter h
  refine ⟨Γ, S, ρ, G, m, p.mono fun v H1 ⟨d, xs, ρ1, G1, r, hd, s, k⟩ => ?_⟩
  cases d <;> try cases hd
  obtain ⟨a, vs, rfl, h1, h2⟩ := rep_lst.mp r
  exact ⟨a, rfl, ⟨vs, SqL.of (s.lst h1)⟩, k _ (src_list h1 h2)⟩
theorem di_t (h : DE X cls W e ε) : DI X cls W tg e (iT ε) := PI.weak (pi_tup h) fun σ H R h => by
  obtain ⟨Γ, S, ρ, G, m, p⟩ := x_iter h
  refine ⟨Γ, S, ρ, G, m, p.mono fun v H1 ⟨d, xs, ρ1, G1, r, hd, s, k⟩ => ?_⟩
  cases d <;> try cases hd
  obtain ⟨a, vs, rfl, h1, h2⟩ := rep_tup.mp r
  exact ⟨a, rfl, ⟨vs, s.sqT h1⟩, k _ (src_tup h1 h2)⟩
theorem di_r1 (hg : Gl X "range") (hm : X.mg "range" = none) (ha : DE X cls W a ε) (he : starEach [a] X.env = (false, eval a X.env) :: starEach [] X.env := by rfl) (hs : starEach [a] X.env = [(false, eval a X.env)] := by rfl) :
    DI X cls W tg (.Call (.Name "range" p) [a] [] pos) (iR1 ε) := PI.weak (pi_range1 hg hm (pa_cons ha pa_nil he) hs) fun σ H R ⟨Γ, S, ρ, G, m, p⟩ => ⟨Γ, S, ρ, G, m, by
  unfold iR1 at p
  cases q : ε Γ S with
  | ok d S1 =>
    rw [q] at p
    simp only [Res.bind_ok] at p
    intro v ρ1 G1 H1 m1 n1 r1
    cases d with
    | int j =>
      simp only [asI] at p
      split at p
      · rename_i xs S2 z
        split at z
        · rename_i hj
          cases z
          have ev := rep_int.mp r1
          subst ev
          have hj2 := of_decide_eq_true hj
          exact ⟨j, rfl, hj2.1, hj2.2, p _ ρ1 G1 H1 m1 n1 src_range⟩
        · cases z
      · rename_i z
        split at z <;> cases z
      · exact p.elim
    | _ => exact p.elim
  | exc x S1 => rw [q] at p; exact p
  | stuck => rw [q] at p; exact p⟩
theorem di_r2 (hg : Gl X "range") (hm : X.mg "range" = none) (ha : DE X cls W a ε1) (hb : DE X cls W b ε2) (he : starEach [a, b] X.env = (false, eval a X.env) :: starEach [b] X.env := by rfl) (he2 : starEach [b] X.env = (false, eval b X.env) :: starEach [] X.env := by rfl)
    (hs : starEach [a, b] X.env = [(false, eval a X.env), (false, eval b X.env)] := by rfl) (hs2 : starEach [b] X.env = [(false, eval b X.env)] := by rfl) :
    DI X cls W tg (.Call (.Name "range" p) [a, b] [] pos) (iR2 ε1 ε2) := PI.weak (pi_range2 hg hm (pa_cons ha (pa_cons hb pa_nil he2) he) hs hs2) fun σ H R ⟨Γ, S, ρ, G, m, p⟩ => ⟨Γ, S, ρ, G, m, by
  unfold iR2 at p
  cases q : ε1 Γ S with
  | ok d S1 =>
    rw [q] at p
    simp only [Res.bind_ok] at p
    intro v ρ1 G1 H1 m1 n1 r1
    refine ⟨Γ, S1, ρ1, G1, m1, ?_⟩
    cases q2 : ε2 Γ S1 with
    | ok d2 S2 =>
      rw [q2] at p
      simp only [Res.bind_ok] at p
      intro v2 ρ2 G2 H2 m2 n2 r2
      cases d with
      | int i =>
        cases d2 with
        | int j =>
          simp only [asI] at p
          split at p
          · rename_i xs S2 z
            split at z
            · rename_i hj
              cases z
              have ev := rep_int.mp r1
              have ew := rep_int.mp r2
              subst ev ew
              have h1 := of_decide_eq_true hj.1
              have h2 := of_decide_eq_true hj.2
              exact ⟨i, j, rfl, ⟨h1.1, h1.2, h2.1, h2.2⟩, p _ ρ2 G2 H2 m2 (n1.trans n2) src_range⟩
            · cases z
          · rename_i z
            split at z <;> cases z
          · exact p.elim
        | _ => exact p.elim
      | _ => exact p.elim
    | exc x S2 => rw [q2] at p; exact fun c dx ρ' G' H' m' n' r' => p c dx ρ' G' H' m' (n1.trans n') r'
    | stuck => rw [q2] at p; exact p
  | exc x S1 => rw [q] at p; exact p
  | stuck => rw [q] at p; exact p⟩

/-! ### for -/
def forD (p : Pat) (kl : List Nat) (β : Ds) : List D → Ds
  | [], Γ, S => .next Γ S
  | x :: xs, Γ, S => match p.bind x Γ with
    | none => .stuck
    | some Γ1 => match β Γ1 S with
      | .next Γ2 S2 => forD p kl β xs (clr kl Γ2) S2
      | .cont Γ2 S2 => forD p kl β xs (clr kl Γ2) S2
      | .brk Γ2 S2 => .next (clr kl Γ2) S2
      | .ret d S2 => .ret d S2
      | .exc e Γ2 S2 => .exc e Γ2 S2
      | .stuck => .stuck
def sFor (ι : Da) (p : Pat) (kl : List Nat) (β : Ds) : Ds := fun Γ S => after (ι Γ S) Γ fun xs S1 => forD p kl β xs Γ S1
theorem SI.rebase {C : Cn} {en : Ent} {Γ : List Sl} {S : List D} {ρ R : List Addr} {G H B F : Hp} {σ : L2.St} (s : SI C { en with B := B, R := R, F := F } Γ S ρ G H σ) (h : Sub en.B B) (k : en.R <+: R) (f : Old en.F F) : SI C en Γ S ρ G H σ := ⟨s.mem, s.nx, s.frs, h.trans s.base, k.trans s.basr, f.trans s.old⟩
theorem SI.to {C : Cn} {en : Ent} {Γ : List Sl} {S : List D} {ρ : List Addr} {G H : Hp} {σ : L2.St} (s : SI C en Γ S ρ G H σ) : SI C { en with B := G, R := ρ, F := H } Γ S ρ G H σ := ⟨s.mem, s.nx, s.frs, .refl, List.prefix_refl _, .refl⟩
theorem PostS.rebase {C : Cn} {en : Ent} {B F : Hp} {R : List Addr} {Dn : Ends} (h : Sub en.B B) (k : en.R <+: R) (f : Old en.F F) : ∀ {o : Out}, PostS C W en Dn o → PostS C W { en with B := B, R := R, F := F } Dn o
  | .next Γ S, q => fun ρ G H σ s => q ρ G H σ (s.rebase h k f)
  | .brk Γ S, q => fun ρ G H σ s => q ρ G H σ (s.rebase h k f)
  | .cont Γ S, q => fun ρ G H σ s => q ρ G H σ (s.rebase h k f)
  | .ret d S, q => fun v ρ G H m n o r => q v ρ G H m n ⟨h.trans o.1, f.trans o.2⟩ r
  | .exc e Γ S, q => fun c dx ρ G H σ s => q c dx ρ G H σ (s.rebase h k f)
  | .stuck, q => q
theorem ds_for {iter : Expr} {body : List Stmt} {ι : Da} {p : Pat} {kl : List Nat} {β : Ds} (hp : PassesOwn (model X.prog X.w) X.A X.env X.xe) (hc : X.calm = true) (hi : DI X cls W tg iter ι) (hg : PG X tg (p.g X.K)) (hb : DSs X cls W body β)
    (hs : ∀ x, foldedSetIterable iter X.env x = pure x := by intro _; rfl) : DS X cls W (.For tg iter body [] pos) (sFor ι p kl β) := PS.weak (ps_for hp hc hi hg hb hs) fun Dn σ H ⟨en, Γ, S, ρ, G, s, q⟩ => ⟨Γ, S, ρ, G, s.mem, by
  unfold sFor at q
  cases z : ι Γ S with
  | exc x S1 => rw [z] at q; exact fun cls' dx ρ1 G1 H1 m n c => q cls' dx ρ1 G1 H1 σ (s.step m n) c
  | stuck => rw [z] at q; exact q.elim
  | ok xs S1 =>
    rw [z] at q
    simp only [after_ok] at q
    intro J ρ1 G1 H1 m1 n1 sk
    have s1 := s.step m1 n1
    have q1 := q.rebase (B := G1) (R := ρ1) (F := H1) s1.base s1.basr s1.old
    refine ⟨fun i m σ H => m = xs.length - i ∧ i ≤ xs.length ∧ ∃ Γ S ρ G, SI ⟨X.K, cls⟩ { en with B := G1, R := ρ1, F := H1 } Γ S ρ G H σ ∧ PostS ⟨X.K, cls⟩ W { en with B := G1, R := ρ1, F := H1 } Dn (forD p kl β (xs.drop i) Γ S),
      ⟨xs.length, by omega, Nat.zero_le _, Γ, S1, ρ1, G1, s1.to, q1⟩, fun i m σ H ⟨hm, hi, Γ, S, ρ, G, s, q⟩ => ?_⟩
    by_cases hlt : i < xs.length
    · rw [List.drop_eq_getElem_cons hlt] at q
      refine .inr ⟨sk.go S ρ G H i s.mem.toS s.base s.basr s.old hlt, fun σ' H' => ∃ Γ S ρ G, SI ⟨X.K, cls⟩ { en with B := G1, R := ρ1, F := H1 } Γ S ρ G H' σ' ∧ PostS ⟨X.K, cls⟩ W { en with B := G1, R := ρ1, F := H1 } Dn (forD p kl β (xs.drop (i + 1)) Γ S),
        fun σ' H' n => ⟨xs.length - (i + 1), by omega, rfl, hlt, n⟩, fun x H' y => ?_⟩
      obtain ⟨G', m', n', r'⟩ := sk.yld S ρ G H i x H' _ s.mem.toS s.base s.basr s.old (List.getElem?_eq_getElem hlt) y
      have mm := s.mem.step n' m'
      have s' := s.step mm n'
      rw [forD] at q
      cases hbd : p.bind xs[i] Γ with
      | none => rw [hbd] at q; exact q.elim
      | some Γ1 =>
        rw [hbd] at q
        refine Pat.ok (C := ⟨X.K, cls⟩) p xs[i] x Γ Γ1 σ mm r' hbd _ fun σ2 m2 sb kp => ?_
        refine ⟨_, Γ1, S, ρ, G', sb _ s', ?_⟩
        simp only at q
        cases hz : β Γ1 S with
        | next Γ2 S2 => rw [hz] at q; exact fun ρ3 G3 H3 σ3 s3 => ⟨_, S2, ρ3, G3, s3.clr, q⟩
        | cont Γ2 S2 => rw [hz] at q; exact fun ρ3 G3 H3 σ3 s3 => ⟨_, S2, ρ3, G3, s3.clr, q⟩
        | brk Γ2 S2 => rw [hz] at q; exact fun ρ3 G3 H3 σ3 s3 => q ρ3 G3 H3 σ3 s3.clr
        | ret d S2 => rw [hz] at q; exact q
        | exc e Γ2 S2 => rw [hz] at q; exact q
        | stuck => rw [hz] at q; exact q.elim
    · have e : i = xs.length := by omega
      subst e
      rw [List.drop_length, forD] at q
      exact .inl ⟨sk.stop S ρ G H s.mem.toS s.base s.basr s.old, q ρ G H σ s⟩⟩
/-- forgetting, as nothing of the program does it: ahead of a statement -/
def sClr (kl : List Nat) : Ds := fun Γ S => .next (clr kl Γ) S
theorem dss_clr (kl : List Nat) (h : DSs X cls W sts δ) : DSs X cls W sts (sSeq (sClr kl) δ) := PSs.weak h fun Dn σ H ⟨en, Γ, S, ρ, G, s, p⟩ => ⟨en, _, S, ρ, G, s.clr, p⟩

/-! ### while -/
def whileD (τ : Dt) (kl : List Nat) (β : Ds) : Nat → Ds
  | 0, _, _ => .stuck
  | n + 1, Γ, S => after (τ Γ S) Γ fun k S1 => if k then (match β Γ S1 with
      | .next Γ2 S2 => whileD τ kl β n (clr kl Γ2) S2
      | .cont Γ2 S2 => whileD τ kl β n (clr kl Γ2) S2
      | .brk Γ2 S2 => .next (clr kl Γ2) S2
      | .ret d S2 => .ret d S2
      | .exc e Γ2 S2 => .exc e Γ2 S2
      | .stuck => .stuck) else .next Γ S1
theorem ds_while {body : List Stmt} {kl : List Nat} {β : Ds} {n : Nat} (hp : PassesOwn (model X.prog X.w) X.A X.env X.xe) (hc : DT X cls W c τ) (hb : DSs X cls W body β) : DS X cls W (.While c body [] pos) (whileD τ kl β n) :=
  PS.weak (ps_while hp hc hb) fun Dn σ H ⟨en, Γ, S, ρ, G, s, q⟩ => by
    refine ⟨fun m σ H => ∃ Γ S ρ G, SI ⟨X.K, cls⟩ en Γ S ρ G H σ ∧ PostS ⟨X.K, cls⟩ W en Dn (whileD τ kl β m Γ S), ⟨n, Γ, S, ρ, G, s, q⟩, fun m σ H ⟨Γ, S, ρ, G, s, q⟩ => ?_⟩
    cases m with
    | zero => exact q.elim
    | succ m =>
      rw [whileD] at q
      refine ⟨Γ, S, ρ, G, s.mem, post_after s q fun k S1 ρ1 G1 H1 v m1 n1 s1 r1 p1 => ?_⟩
      have e1 : k = v := r1
      subst e1
      cases k with
      | false => exact iteF (p1 ρ1 G1 H1 σ s1)
      | true =>
        simp only [if_true] at p1
        refine iteT ⟨fun σ' H' => ∃ Γ S ρ G, SI ⟨X.K, cls⟩ en Γ S ρ G H' σ' ∧ PostS ⟨X.K, cls⟩ W en Dn (whileD τ kl β m Γ S), fun σ' H' n => ⟨m, by omega, n⟩, en, Γ, S1, ρ1, G1, s1, ?_⟩
        cases hz : β Γ S1 with
        | next Γ2 S2 => rw [hz] at p1; exact fun ρ3 G3 H3 σ3 s3 => ⟨_, S2, ρ3, G3, s3.clr, p1⟩
        | cont Γ2 S2 => rw [hz] at p1; exact fun ρ3 G3 H3 σ3 s3 => ⟨_, S2, ρ3, G3, s3.clr, p1⟩
        | brk Γ2 S2 => rw [hz] at p1; exact fun ρ3 G3 H3 σ3 s3 => p1 ρ3 G3 H3 σ3 s3.clr
        | ret d S2 => rw [hz] at p1; exact p1
        | exc e Γ2 S2 => rw [hz] at p1; exact p1
        | stuck => rw [hz] at p1; exact p1.elim
end
end DL

namespace DL
open PySem PySem.Spec PyProof.Rows L2

/-! ### list comprehensions -/
abbrev W0 : WX := fun _ _ _ _ => False
def wipeD (Γ : List Sl) : List Nat → List Sl
  | [] => Γ
  | v :: vs => (wipeD Γ vs).set v .non
theorem wipe_out2 {σ : L2.St} {j : Nat} : ∀ {vs : List Nat}, j ∉ vs → (L2.wipe σ vs)[j]? = σ[j]?
  | [], _ => rfl
  | v :: vs, h => by
    rw [List.mem_cons, not_or] at h
    unfold L2.wipe
    rw [List.getElem?_set_ne (Ne.symm h.1), wipe_out2 h.2]
theorem wipe_in {σ : L2.St} {j : Nat} (hl : j < σ.length) : ∀ {vs : List Nat}, j ∈ vs → (L2.wipe σ vs)[j]? = some none
  | v :: vs, h => by
    unfold L2.wipe
    by_cases e : v = j
    · subst e
      rw [List.getElem?_set_self (by rw [L2.wipe_length]; exact hl)]
    · rw [List.getElem?_set_ne e]
      rcases List.mem_cons.mp h with z | z
      · exact absurd z.symm e
      · exact wipe_in hl z
theorem wipe_eq {σ σ' : L2.St} {vs : List Nat} (hl : σ'.length = σ.length) (h : ∀ j, j ∉ vs → σ'[j]? = σ[j]?) : L2.wipe σ' vs = L2.wipe σ vs := by
  apply List.ext_getElem?
  intro j
  by_cases hj : j ∈ vs
  · by_cases hlt : j < σ.length
    · rw [wipe_in (by rw [hl]; exact hlt) hj, wipe_in hlt hj]
    · rw [List.getElem?_eq_none (by rw [L2.wipe_length]; omega), List.getElem?_eq_none (by rw [L2.wipe_length]; omega)]
  · rw [wipe_out2 hj, wipe_out2 hj, h j hj]
theorem wipeD_out {Γ : List Sl} {j : Nat} {x : Sl} (hx : x ≠ .non) : ∀ {vs : List Nat}, (wipeD Γ vs)[j]? = some x → Γ[j]? = some x ∧ j ∉ vs
  | [], h => ⟨h, by simp⟩
  | v :: vs, h => by
    unfold wipeD at h
    by_cases e : v = j
    · subst e
      by_cases hl : v < (wipeD Γ vs).length
      · rw [List.getElem?_set_self hl] at h; cases h; exact absurd rfl hx
      · rw [List.getElem?_eq_none (by simpa using hl)] at h; cases h
    · rw [List.getElem?_set_ne e] at h
      obtain ⟨h1, h2⟩ := wipeD_out hx h
      exact ⟨h1, by rw [List.mem_cons, not_or]; exact ⟨fun z => e z.symm, h2⟩⟩
theorem wipeD_val {Γ : List Sl} {j : Nat} {d : D} {vs : List Nat} (h : (wipeD Γ vs)[j]? = some (Sl.val d)) : Γ[j]? = some (Sl.val d) ∧ j ∉ vs := wipeD_out (by intro z; cases z) h
theorem wipeD_own {Γ : List Sl} {j : Nat} {d : D} {vs : List Nat} (h : (wipeD Γ vs)[j]? = some (Sl.own d)) : Γ[j]? = some (Sl.own d) ∧ j ∉ vs := wipeD_out (by intro z; cases z) h
theorem wipeD_len {Γ : List Sl} : ∀ {vs : List Nat}, (wipeD Γ vs).length = Γ.length
  | [] => rfl
  | v :: vs => by unfold wipeD; rw [List.length_set, wipeD_len]
theorem Mem.wipe {C : Cn} {Γ : List Sl} {S : List D} {ρ : List Addr} {G H : Hp} {σ : L2.St} (m : Mem C Γ S ρ G H σ) (vs : List Nat) : Mem C (wipeD Γ vs) S ρ G H (L2.wipe σ vs) where
  sub := m.sub
  val := fun i d h => by
    obtain ⟨h1, h2⟩ := wipeD_val h
    rw [wipe_out2 h2]; exact m.val i d h1
  own := fun i d h => by
    obtain ⟨h1, h2⟩ := wipeD_own h
    rw [wipe_out2 h2]; exact m.own i d h1
  inj := fun i j d d' a h k h2 k2 => by
    obtain ⟨h1, n1⟩ := wipeD_own h
    obtain ⟨k1, n2⟩ := wipeD_own k
    rw [wipe_out2 n1] at h2
    rw [wipe_out2 n2] at k2
    exact m.inj i j d d' a h1 k1 h2 k2
  sto := m.sto
  stG := m.stG
  len := m.len
  nd := m.nd
  wid := by rw [wipeD_len, L2.wipe_length]; exact m.wid
  xcp := fun i x h => by
    obtain ⟨h1, h2⟩ := wipeD_out (by intro z; cases z) h
    rw [wipe_out2 h2]; exact m.xcp i x h1
/-- in a comprehension nothing may be raised -/
def nox {α : Type} (r : Res α) : Res α := match r with | .exc _ _ => .stuck | r => r
@[simp] theorem nox_ok {α : Type} (a : α) (S : List D) : nox (.ok a S) = .ok a S := Eq.trans rfl rfl
@[simp] theorem nox_exc {α : Type} (e : Exn) (S : List D) : nox (.exc e S : Res α) = .stuck := Eq.trans rfl rfl
@[simp] theorem nox_stuck {α : Type} : nox (.stuck : Res α) = .stuck := Eq.trans rfl rfl
def compD (p : Pat) (τ : Dt) (ε : De) : List D → List Sl → List D → Res (List D)
  | [], _, S => .ok [] S
  | x :: xs, Γ, S => match p.bind x Γ with
    | none => .stuck
    | some Γ1 => (nox (τ Γ1 S)).bind fun k S1 => if k then (nox (ε Γ1 S1)).bind fun d S2 => (compD p τ ε xs Γ S2).bind fun ds S3 => .ok (d :: ds) S3 else compD p τ ε xs Γ S1
def lenOk (ds : List D) : Option D := if ds.length ≤ sizeLine then some (.lst ds) else none
def eComp (ι : Da) (p : Pat) (vs : List Nat) (τ : Dt) (ε : De) : De := fun Γ S => (ι Γ S).bind fun xs S1 => (compD p τ ε xs (wipeD Γ vs) S1).bind fun ds S2 => ofO (lenOk ds) S2
def tTrue : Dt := fun _ S => .ok true S
def DTs (X : Cx) (cls : Nat → Addr) (ifs : List Expr) (τ : Dt) : Prop := PTs X ifs (tT ⟨X.K, cls⟩ W0 τ)
theorem PTs.weak {X : Cx} {e : List Expr} {t t' : TT} (h : PTs X e t) (i : ∀ σ H Q, t' σ H Q → t σ H Q) : PTs X e t' := ⟨fun pins s σ H Q I h' => h.run pins s σ H Q I (i σ H Q h')⟩
section
variable {X : Cx} {cls : Nat → Addr} {W : WX} {e c : Expr} {τ : Dt}
theorem dts_nil : DTs X cls [] tTrue := PTs.weak pts_nil fun σ H Q ⟨Γ, S, ρ, G, m, p⟩ => p.at m rfl
theorem dts_one (h : DT X cls W0 c τ) : DTs X cls [c] τ := pts_one h
end
theorem nox_post {C : Cn} {α β : Type} {RV : RVT α β} {Γ : List Sl} {ρ : List Addr} {G H : Hp} {σ : L2.St} {r : Res α} {Q : β → Hp → Prop} (h : ∀ d S1, r = .ok d S1 → ∀ v ρ' G' H', Mem C Γ S1 ρ' G' H' σ → Nx ρ G H ρ' G' H' → RV H ρ' G' H' d v → Q v H') (hs : ∃ d S1, r = .ok d S1) : Post C W0 RV Γ ρ G H σ r Q := by
  obtain ⟨d, S1, rfl⟩ := hs
  exact h d S1 rfl

section
variable {X : Cx} {cls : Nat → Addr} {W : WX}
theorem x_comp {ι : Da} {p : Pat} {τ : Dt} {ε : De} {vs : List Nat} (hv : ∀ i ∈ p.vars, i ∈ vs) {σ : L2.St} {H : Hp} {Q : VK} (h : tE ⟨X.K, cls⟩ W (RF ⟨X.K, cls⟩) (eComp ι p vs τ ε) σ H Q) :
    tLc (tI ⟨X.K, cls⟩ W ι) (p.g X.K) (tT ⟨X.K, cls⟩ W0 τ) (tE ⟨X.K, cls⟩ W0 (RS ⟨X.K, cls⟩) ε) vs σ H Q := by
  obtain ⟨Γ, S, ρ, G, m, q⟩ := h
  refine ⟨Γ, S, ρ, G, m, ?_⟩
  unfold eComp at q
  cases z : ι Γ S with
  | exc x S1 => rw [z] at q; exact q
  | stuck => rw [z] at q; exact q
  | ok xs S1 =>
    rw [z] at q
    simp only [Res.bind_ok] at q
    intro J ρ1 G1 H1 m1 n1 sk D0 hD
    have hown : ∀ (i : Nat) (d : D) (b : Addr), Γ[i]? = some (Sl.own d) → σ[i]? = some (some (V.ref b)) → b ≠ D0 := fun i d b h1 h2 e => by
      obtain ⟨b', e', r', _⟩ := m1.own i d h1
      rw [h2] at e'; cases e'
      obtain ⟨o, ho⟩ := r'.some
      rw [e, hD] at ho; cases ho
    have hownw : ∀ (i : Nat) (d : D) (b : Addr), (wipeD Γ vs)[i]? = some (Sl.own d) → (L2.wipe σ vs)[i]? = some (some (V.ref b)) → b ≠ D0 := fun i d b h1 h2 => by
      obtain ⟨k1, k2⟩ := wipeD_own h1
      rw [wipe_out2 k2] at h2
      exact hown i d b k1 h2
    have gD : G1 D0 = none := by
      cases e : G1 D0 with
      | none => rfl
      | some o => obtain ⟨_, z⟩ := m1.sub.has e; rw [z] at hD; cases hD
    have pD : D0 ∉ ρ1 := fun e => by
      obtain ⟨i, hi⟩ := List.mem_iff_getElem?.mp e
      have hi2 : i < S1.length := by rw [← m1.len]; exact (List.getElem?_eq_some_iff.mp hi).1
      obtain ⟨a, ha, r⟩ := m1.sto i S1[i] (List.getElem?_eq_getElem hi2)
      rw [hi] at ha; cases ha
      obtain ⟨o, ho⟩ := r.some
      rw [ho] at hD; cases hD
    -- the state of the loop
    let Pv : Nat → Hp → Prop := fun i H => ∃ S ρ G acc accd, Mem ⟨X.K, cls⟩ Γ S ρ G H σ ∧ H D0 = some (.lst acc) ∧ Reps ⟨X.K, cls⟩ ρ G accd acc ∧ D0 ∉ ρ ∧ G D0 = none ∧ Nx ρ1 G1 H1 ρ G H ∧
      compD p τ ε xs (wipeD Γ vs) S1 = (compD p τ ε (xs.drop i) (wipeD Γ vs) S).bind fun ds S3 => .ok (accd ++ ds) S3
    refine ⟨fun i mm H => mm = xs.length - i ∧ i ≤ xs.length ∧ Pv i H, ⟨xs.length, by omega, Nat.zero_le _, S1, ρ1, G1, [], [], m1.aside gD (noTE_of hD) pD hown, upd_same, .nil, pD, gD, Nx.refl.aside hD, ?_⟩, fun i mm H ⟨hm, hi, S, ρ, G, acc, accd, ms, hacc, racc, pD', gD', nn, eqn⟩ => ?_⟩
    · rw [List.drop_zero]
      cases compD p τ ε xs (wipeD Γ vs) S1 <;> rfl
    · have sub1 : Sub G1 G := nn.ext
      by_cases hlt : i < xs.length
      · rw [List.drop_eq_getElem_cons hlt, compD] at eqn
        refine .inr ⟨sk.go S ρ G H i ms.toS sub1 nn.pre (old_of m1 nn) hlt, Pv (i + 1), fun H' n => ⟨xs.length - (i + 1), by omega, rfl, hlt, n⟩, fun x H' y => ?_⟩
        obtain ⟨G', m', n', r'⟩ := sk.yld S ρ G H i x H' _ ms.toS sub1 nn.pre (old_of m1 nn) (List.getElem?_eq_getElem hlt) y
        have mH' := ms.step n' m'
        have mw := mH'.wipe vs
        cases hbd : p.bind xs[i] (wipeD Γ vs) with
        | none => rw [hbd] at eqn; rw [eqn] at q; exact q.elim
        | some Γ1 =>
          rw [hbd] at eqn
          simp only at eqn
          refine Pat.ok (C := ⟨X.K, cls⟩) p xs[i] x (wipeD Γ vs) Γ1 (L2.wipe σ vs) mw r' hbd _ fun σ2 m2 _ kp => ⟨?_, Γ1, S, ρ, G', m2, ?_⟩
          · rw [wipe_eq kp.1 fun j hj => kp.2 j fun h => hj (hv j h), wipe_eq (L2.wipe_length σ vs) fun j hj => wipe_out2 hj]
          · -- the test
            cases zt : τ Γ1 S with
            | exc x2 S2 => rw [zt] at eqn; rw [eqn] at q; exact q.elim
            | stuck => rw [zt] at eqn; rw [eqn] at q; exact q.elim
            | ok k S2 =>
              rw [zt] at eqn
              simp only [nox_ok, Res.bind_ok] at eqn
              intro kv ρ2 G2 H2 mm2 nn2 rk
              have ek : k = kv := rk
              subst ek
              have nnH : Nx ρ G H ρ2 G2 H2 := n'.trans nn2
              have mg2 : Mem ⟨X.K, cls⟩ Γ S2 ρ2 G2 H2 σ := ms.step nnH mm2.toS
              cases k with
              | false =>
                simp only [Bool.false_eq_true, if_false] at eqn
                refine iteF ⟨S2, ρ2, G2, acc, accd, mg2, nnH.keep _ _ (fun _ z => nomatch z) hacc pD', Reps.mono nnH.ext nnH.pre _ _ racc, fun z => ?_, ?_, nn.trans nnH, eqn⟩
                · rcases nnH.fre _ z with z | z
                  · exact pD' z
                  · rw [hacc] at z; cases z
                · cases e : G2 D0 with
                  | none => rfl
                  | some o => rcases nnH.new _ _ e with z | z
                              · rw [gD'] at z; cases z
                              · rw [hacc] at z; cases z
              | true =>
                simp only [if_true] at eqn
                refine iteT ⟨Γ1, S2, ρ2, G2, mm2, ?_⟩
                cases ze : ε Γ1 S2 with
                | exc x3 S3 => rw [ze] at eqn; rw [eqn] at q; exact q.elim
                | stuck => rw [ze] at eqn; rw [eqn] at q; exact q.elim
                | ok d S3 =>
                  rw [ze] at eqn
                  simp only [nox_ok, Res.bind_ok] at eqn
                  intro dv ρ3 G3 H3 mm3 nn3 rd
                  have nn4 : Nx ρ G H ρ3 G3 H3 := nnH.trans nn3
                  have hacc3 : H3 D0 = some (.lst acc) := nn4.keep _ _ (fun _ z => nomatch z) hacc pD'
                  have pD3 : D0 ∉ ρ3 := fun z => by
                    rcases nn4.fre _ z with z | z
                    · exact pD' z
                    · rw [hacc] at z; cases z
                  have gD3 : G3 D0 = none := by
                    cases e : G3 D0 with
                    | none => rfl
                    | some o => rcases nn4.new _ _ e with z | z
                                · rw [gD'] at z; cases z
                                · rw [hacc] at z; cases z
                  have mg3 : Mem ⟨X.K, cls⟩ Γ S3 ρ3 G3 H3 σ := ms.step nn4 mm3.toS
                  have eqn2 : compD p τ ε xs (wipeD Γ vs) S1 = (compD p τ ε (xs.drop (i + 1)) (wipeD Γ vs) S3).bind fun ds S3 => .ok ((accd ++ [d]) ++ ds) S3 := by
                    rw [eqn]
                    cases compD p τ ε (xs.drop (i + 1)) (wipeD Γ vs) S3 with
                    | ok ds S4 => simp only [Res.bind_ok, List.append_assoc, List.singleton_append]
                    | exc _ _ => rfl
                    | stuck => rfl
                  refine ⟨acc, hacc3, ?_, S3, ρ3, G3, acc ++ [dv], accd ++ [d], mg3.aside gD3 (noTE_lst hacc3) pD3 hown, upd_same, (Reps.mono nn4.ext nn4.pre _ _ racc).append (.cons rd .nil), pD3, gD3, (nn.trans nn4).aside hD, eqn2⟩
                  rw [eqn2] at q
                  cases zz : compD p τ ε (xs.drop (i + 1)) (wipeD Γ vs) S3 with
                  | exc _ _ =>
                    exfalso
                    have : ∀ (xs : List D) (Γ : List Sl) (S : List D) e S', compD p τ ε xs Γ S ≠ .exc e S' := by
                      intro xs
                      induction xs with
                      | nil => intro Γ S e S' h; cases h
                      | cons x xs ih =>
                        intro Γ S e S' h
                        rw [compD] at h
                        cases a1 : p.bind x Γ with
                        | none => rw [a1] at h; cases h
                        | some Γ1 =>
                          rw [a1] at h
                          simp only at h
                          cases a2 : τ Γ1 S with
                          | exc _ _ => rw [a2] at h; cases h
                          | stuck => rw [a2] at h; cases h
                          | ok k S1 =>
                            rw [a2] at h
                            simp only [nox_ok, Res.bind_ok] at h
                            cases k with
                            | false => exact ih _ _ _ _ (by simpa using h)
                            | true =>
                              simp only [if_true] at h
                              cases a3 : ε Γ1 S1 with
                              | exc _ _ => rw [a3] at h; cases h
                              | stuck => rw [a3] at h; cases h
                              | ok d S2 =>
                                rw [a3] at h
                                simp only [nox_ok, Res.bind_ok] at h
                                cases a4 : compD p τ ε xs Γ S2 with
                                | ok _ _ => rw [a4] at h; cases h
                                | stuck => rw [a4] at h; cases h
                                | exc _ _ => exact ih _ _ _ _ a4
                    exact this _ _ _ _ _ zz
                  | stuck => rw [zz] at q; exact q.elim
                  | ok ds S4 =>
                    rw [zz] at q
                    simp only [Res.bind_ok] at q
                    unfold lenOk at q
                    split at q
                    · rename_i hl
                      rw [List.length_append, List.length_append, List.length_singleton] at hl
                      rw [← racc.length]; omega
                    · exact q.elim
      · have e : i = xs.length := by omega
        subst e
        refine .inl ⟨sk.stop S ρ G H ms.toS sub1 nn.pre (old_of m1 nn), ?_⟩
        rw [List.drop_length, compD] at eqn
        rw [eqn] at q
        simp only [Res.bind_ok, List.append_nil] at q
        unfold lenOk at q
        split at q
        · exact q _ ρ G H ms (n1.trans nn) ⟨D0, rfl, pD', n1.live _ hD, gD', acc, hacc, racc⟩
        · exact q.elim
theorem df_comp {elt tg iter : Expr} {ifs : List Expr} {scope : Scope} {own : List (Str × Nat)} {pos : Pos} {ι : Da} {p : Pat} {τ : Dt} {ε : De} (hc : X.calm = true) (hN : X.N.Nodup) (hi : DI X cls W tg iter ι) (ok : BlkOk X.N X.env.scope scope own) (hv : ∀ i ∈ p.vars, i ∈ own.map (·.2))
    (hg : ∀ (s : Shared) (H : Hp) (C : Addr) (cl : List (Str × Addr)) (fp : List Addr), PG (X.blk s H scope (compEnvC scope cl C X.env) fp) tg (p.g X.K)) (ht : ∀ (s : Shared) (H : Hp) (C : Addr) (cl : List (Str × Addr)) (fp : List Addr), DTs (X.blk s H scope (compEnvC scope cl C X.env) fp) cls ifs τ)
    (he : ∀ (s : Shared) (H : Hp) (C : Addr) (cl : List (Str × Addr)) (fp : List Addr), DE (X.blk s H scope (compEnvC scope cl C X.env) fp) cls W0 elt ε) (hs : ∀ x, foldedSetIterable iter X.env x = pure x := by intro _; rfl) :
    DF X cls W (.ListComp elt [⟨tg, iter, ifs, 0⟩] scope pos) (eComp ι p (own.map (·.2)) τ ε) := PE.weak (pe_lc (tt := tT ⟨X.K, cls⟩ W0 τ) (te := tE ⟨X.K, cls⟩ W0 (RS ⟨X.K, cls⟩) ε) hc hN hi ok hg ht he hs) fun σ H Q h => x_comp hv h
/-- name = [..]: settled | the slot's own -/
theorem ps_comp {i : Nat} {y : Str} {py : Pos} {elt tg iter : Expr} {ifs : List Expr} {scope : Scope} {own : List (Str × Nat)} {pos spos : Pos} {ι : Da} {p : Pat} {τ : Dt} {ε : De} (hc : X.calm = true) (hN : X.N.Nodup) (hy : X.N[i]? = some y) (hyl : X.env.scope.names.lookup y = some .local)
    (hsw : swapsWith (.ListComp elt [⟨tg, iter, ifs, 0⟩] scope pos) (some (.Name y py)) spos.line X.env = pure true) (hi : DI X cls W tg iter ι) (ok : BlkOk X.N X.env.scope scope own) (hv : ∀ i ∈ p.vars, i ∈ own.map (·.2))
    (hg : ∀ (s : Shared) (H : Hp) (C : Addr) (cl : List (Str × Addr)) (fp : List Addr), PG (X.blk s H scope (compEnvC scope cl C X.env) fp) tg (p.g X.K)) (ht : ∀ (s : Shared) (H : Hp) (C : Addr) (cl : List (Str × Addr)) (fp : List Addr), DTs (X.blk s H scope (compEnvC scope cl C X.env) fp) cls ifs τ)
    (he : ∀ (s : Shared) (H : Hp) (C : Addr) (cl : List (Str × Addr)) (fp : List Addr), DE (X.blk s H scope (compEnvC scope cl C X.env) fp) cls W0 elt ε) (hs : ∀ x, foldedSetIterable iter X.env x = pure x := by intro _; rfl) :
    PS X (.Assign [.Name y py] (.ListComp elt [⟨tg, iter, ifs, 0⟩] scope pos) spos) (tAsg (tE ⟨X.K, cls⟩ W (RF ⟨X.K, cls⟩) (eComp ι p (own.map (·.2)) τ ε)) (gName i)) := PS.weak (ps_setLc (tt := tT ⟨X.K, cls⟩ W0 τ) (te := tE ⟨X.K, cls⟩ W0 (RS ⟨X.K, cls⟩) ε) hc hN hy hyl hsw hi ok hg ht he hs) fun Dn σ H h => x_comp (Q := fun x H1 => gName i x σ H1 Dn.nx) hv h
theorem ds_setC {i : Nat} {st : Stmt} {ε : De} (h : PS X st (tAsg (tE ⟨X.K, cls⟩ W (RF ⟨X.K, cls⟩) ε) (gName i))) : DS X cls W st (sSet i ε) := PS.weak h fun D σ H ⟨en, Γ, S, ρ, G, s, p⟩ =>
  ⟨Γ, S, ρ, G, s.mem, post_after s p fun d S1 ρ1 G1 H1 v m n s1 r p1 => by
    obtain ⟨G2, m2, n2, r2⟩ := RF.settle s.mem n m r
    exact p1 _ _ _ _ ((s.step m2 n2).setv i r2)⟩
theorem ds_ownC {i : Nat} {st : Stmt} {ε : De} (h : PS X st (tAsg (tE ⟨X.K, cls⟩ W (RF ⟨X.K, cls⟩) ε) (gName i))) : DS X cls W st (sOwn i ε) := PS.weak h fun D σ H ⟨en, Γ, S, ρ, G, s, p⟩ =>
  ⟨Γ, S, ρ, G, s.mem, post_after s p fun d S1 ρ1 G1 H1 v m n s1 r p1 => by
    obtain ⟨a, rfl, na, h0, hg, r⟩ := r
    exact p1 _ _ _ _ (s.seto i n m na h0 hg r)⟩
end
end DL

namespace DL
open PySem PySem.Spec PyProof.Rows L2

/-! ### a list, a tuple or a text is walked -/
def iSeqA (K : PySem.W.Frag) (tl : TE) : TI := fun σ H R => tl σ H fun x H1 => (∃ a, x = .ref a ∧ (∃ xs, SqL K H1 a xs) ∧ R (Itl K a) H1) ∨ (∃ a, x = .ref a ∧ (∃ xs, SqT K H1 a xs) ∧ R (Itt K a) H1) ∨ ∃ z, x = .str z ∧ R (Its z) H1
theorem pi_any {X : Cx} {tg l : Expr} {tl : TE} (hl : PE X l tl) : PI X tg l (iSeqA X.K tl) := by
  refine ⟨fun pins s σ H R I h => ?_⟩
  refine thn (hl.run pins s σ H _ I h) fun v s1 ⟨x, H1, I1, r1, q1⟩ => ?_
  rcases q1 with ⟨a, e, ⟨xs, hq⟩, q⟩ | ⟨a, e, ⟨xs, hq⟩, q⟩ | ⟨z, e, q⟩
  · subst e
    cases r1
    obtain ⟨its, rv, p, hz⟩ := I1.list hq
    refine wpAny_pyIter_list p.isList ?_
    refine ⟨s1.heap.objs.size, [s1.heap.objs.size], _, _, H1, rfl, I1.kept (t' := s1.toks) fun b o e => Heap.get?_push_of_some _ e, turn_list a _, ⟨_, Heap.get?_push_size _ rfl, rfl, rfl⟩, fun b hb => ?_, q⟩
    have e : b = s1.heap.objs.size := by simpa using hb
    subst e
    exact I1.fpOk (Nat.le_refl _) (I1.hok.fresh (Nat.le_refl _))
  · subst e
    cases r1
    obtain ⟨its, rv, p, hz⟩ := I1.tuple hq
    refine wpAny_pyIter_tuple (show s1.heap.IsTuple a its.toArray from p) ?_
    refine ⟨s1.heap.objs.size, [s1.heap.objs.size], _, _, H1, rfl, I1.kept (t' := s1.toks) fun b o e => Heap.get?_push_of_some _ e, turn_tuple a _, ⟨_, Heap.get?_push_size _ rfl, rfl, rfl⟩, fun b hb => ?_, q⟩
    have e : b = s1.heap.objs.size := by simpa using hb
    subst e
    exact I1.fpOk (Nat.le_refl _) (I1.hok.fresh (Nat.le_refl _))
  · subst e
    obtain ⟨t, rfl⟩ := r1
    cases ha : z.cps.all (· < 128)
    · exact wpAny_pyIter_wide ha (pi_one (tk := s1.toks) I1 _ (turn_str _ z t "str_iterator" (.inr rfl)) ⟨_, Heap.get?_push_size _ rfl, rfl, rfl⟩ q)
    · exact wpAny_pyIter_ascii ha (pi_one (tk := s1.toks) I1 _ (turn_str _ z t "str_ascii_iterator" (.inl rfl)) ⟨_, Heap.get?_push_size _ rfl, rfl, rfl⟩ q)
def items : D → Option (List D)
  | .lst xs => some xs
  | .tup xs => some xs
  | .scr ns => some (ns.map .int)
  | .str z => some (z.cps.toList.map fun c => .str ⟨#[c]⟩)
  | _ => none
def iA (a : De) : Da := fun Γ S => (a Γ S).bind fun x S1 => ofO (items x) S1
theorem src_str {C : Cn} {z : Str} {ρ0 : List Addr} {G0 H0 : Hp} : SrcOk C (Its z) (z.cps.toList.map fun c => .str ⟨#[c]⟩) ρ0 G0 H0 where
  go := fun S ρ G H i m s _ _ hi => by
    show i < z.cps.size
    simpa using hi
  yld := fun S ρ G H i x H' d m s pr _ hd y => by
    obtain ⟨rfl, c, hc, rfl⟩ := y
    rw [List.getElem?_map, Array.getElem?_toList, hc] at hd
    cases hd
    exact ⟨G, m, .refl, rep_str.mpr rfl⟩
  stop := fun S ρ G H m s _ _ => by
    show z.cps.size ≤ _
    simp
theorem src_scr {C : Cn} {a : Addr} {ns : List Int} {ρ0 : List Addr} {G0 H0 : Hp} (h : SqL C.K G0 a (ns.map V.int)) : SrcOk C (Itl C.K a) (ns.map .int) ρ0 G0 H0 where
  go := fun S ρ G H i m s _ _ hi => ⟨ns.map V.int, (ns.map V.int)[i]'(by simpa using hi), (m.sub.toSubA.back s).sqL h, List.getElem?_eq_getElem _⟩
  yld := fun S ρ G H i x H' d m s pr _ hd y => by
    obtain ⟨rfl, y⟩ := y
    have e := y _ ((m.sub.toSubA.back s).sqL h)
    rw [List.getElem?_map] at hd e
    cases z : ns[i]? with
    | none => rw [z] at hd; cases hd
    | some n =>
      rw [z] at hd e
      cases hd; cases e
      exact ⟨G, m, .refl, rep_int.mpr rfl⟩
  stop := fun S ρ G H m s _ _ => ⟨ns.map V.int, (m.sub.toSubA.back s).sqL h, by simp⟩
section
variable {X : Cx} {cls : Nat → Addr} {W : WX} {e tg : Expr} {ε : De}
theorem di_a (h : DE X cls W e ε) : DI X cls W tg e (iA ε) := PI.weak (pi_any h) fun σ H R h => by
  obtain ⟨Γ, S, ρ, G, m, p⟩ := x_iter h
  refine ⟨Γ, S, ρ, G, m, p.mono fun v H1 ⟨d, xs, ρ1, G1, r, hd, s, k⟩ => ?_⟩
  cases d <;> try cases hd
  · rw [rep_str] at r; subst r
    exact .inr (.inr ⟨_, rfl, k _ src_str⟩)
  · obtain ⟨a, vs, rfl, h1, h2⟩ := rep_lst.mp r
    exact .inl ⟨a, rfl, ⟨vs, SqL.of (s.lst h1)⟩, k _ (src_list h1 h2)⟩
  · obtain ⟨a, vs, rfl, h1, h2⟩ := rep_tup.mp r
    exact .inr (.inl ⟨a, rfl, ⟨vs, s.sqT h1⟩, k _ (src_tup h1 h2)⟩)
  · obtain ⟨a, rfl, h1⟩ := rep_scr.mp r
    exact .inl ⟨a, rfl, ⟨_, s.sqL h1⟩, k _ (src_scr h1)⟩
end
/-! ### names of the module -/
section
variable {X : Cx} {cls : Nat → Addr} {W : WX} {x : Str} {pos : Pos}
theorem de_gstr {z : Str} (hm : ∃ t : Tok, X.mg x = some (.str z t)) (hg : Gl X x := by rfl) (hd : (x == ("__debug__" : Str)) = false := by decide) : DE X cls W (.Name x pos) (eC (.str z)) := de_c (v := .str z) (pe_glob hg hm.choose_spec ⟨_, rfl⟩ hd) fun _ _ => rep_str.mpr rfl
theorem de_gint {z : Int} (hm : ∃ t : Tok, X.mg x = some (.int z t)) (hg : Gl X x := by rfl) (hd : (x == ("__debug__" : Str)) = false := by decide) : DE X cls W (.Name x pos) (eC (.int z)) := de_c (v := .int z) (pe_glob hg hm.choose_spec ⟨_, rfl⟩ hd) fun _ _ => rep_int.mpr rfl
/-- a written tuple of texts -/
inductive StrsV : List Str → List Value → Prop
  | nil : StrsV [] []
  | cons {z : Str} {t : Tok} {zs : List Str} {us : List Value} (h : StrsV zs us) : StrsV (z :: zs) (.str z t :: us)
theorem StrsV.vals : ∀ {zs : List Str} {us : List Value}, StrsV zs us → Vals (zs.map V.str) us
  | _, _, .nil => .nil
  | _, _, .cons (t := t) h => .cons ⟨t, rfl⟩ h.vals
theorem reps_strs {C : Cn} {ρ : List Addr} {G : Hp} : ∀ {zs : List Str}, Reps C ρ G (zs.map D.str) (zs.map V.str)
  | [] => .nil
  | z :: zs => .cons (rep_str.mpr rfl) reps_strs
theorem de_gtup {zs : List Str} (hm : ∃ a us n sl, X.mg x = some (.ref a) ∧ X.K.lookup a = some ⟨.type "tuple", none, .seq us.toArray n, sl⟩ ∧ StrsV zs us ∧ us.length ≤ sizeLine)
    (hg : Gl X x := by rfl) (hd : (x == ("__debug__" : Str)) = false := by decide) : DE X cls W (.Name x pos) (eC (.tup (zs.map D.str))) := by
  obtain ⟨a, us, n, sl, hm, hk, hu, hl⟩ := hm
  exact de_c (v := .ref a) (pe_glob hg hm rfl hd) fun ρ G => rep_tup.mpr ⟨a, zs.map V.str, rfl, .inr ⟨_, us.toArray, n, rfl, hk, rfl, rfl, by simpa using hl, hu.vals⟩, reps_strs⟩
end
def fuel : Nat := 1000000
/-! ### defs by the number of calls -/
abbrev Rec := Nat → List D → List D → Res D
section
variable {P : Program} {w : World} {K : PySem.W.Frag} {mg : Str → Option Value} {base : Heap} {cls : Nat → Addr}
theorem fn_stuck {k : Nat} {f : Addr} {fd : FuncData} {ps : List Str} {C : Cn} {F : List D → List D → Res D} (h : ∀ ds S, F ds S = .stuck) : FnOk P w K mg base (L2.CX P w) k f fd ps (spD C ps.length F) := by
  have no : ∀ vs H Q E, ¬ spD C ps.length F vs H Q E := fun vs H Q E h' => by
    obtain ⟨S, ρ, G, ds, _, _, _, z⟩ := h'
    rw [h] at z; exact z
  exact ⟨fun vs H Q E h => absurd h (no vs H Q E), fun A outer s H args us vs Q E _ _ _ _ h => absurd h (no vs H Q E)⟩
/-- what is settled at the law's entry: all but code objects -/
def bareG (H : Hp) : Hp := fun b => match H b with
  | some (.ext _) => none
  | some (.tbl _) => none
  | o => o
theorem bareG_some {H : Hp} {b : Addr} {o : HO} (h : bareG H b = some o) : H b = some o ∧ NoTE (some o) := by
  unfold bareG at h
  split at h
  · cases h
  · cases h
  · rename_i n n2
    exact ⟨h, fun f z => n2 f (by rw [h, z]), fun f z => n f (by rw [h, z])⟩
theorem bareG_of {H : Hp} {b : Addr} {o : HO} (h : H b = some o) (n : NoTE (some o)) : bareG H b = some o := by
  unfold bareG
  rw [h]
  cases o <;> first | rfl | exact absurd rfl (n.1 _) | exact absurd rfl (n.2 _)
theorem bareG_sqL {K : PySem.W.Frag} {H : Hp} {a : Addr} {xs : List V} (h : SqL K H a xs) : SqL K (bareG H) a xs := by
  rcases h with (h | ⟨o, h⟩) | h
  · exact .inl (.inl (bareG_of h ⟨fun _ z => (nomatch z), fun _ z => (nomatch z)⟩))
  · exact .inl (.inr ⟨o, bareG_of h ⟨fun _ z => (nomatch z), fun _ z => (nomatch z)⟩⟩)
  · exact .inr h
theorem mem_begin {C : Cn} {H : Hp} (h0 : ∀ i, C.cls (i + 1000) ≠ 0 → H (C.cls (i + 1000)) = some (.tbl #[])) : Mem C [] [] [] (bareG H) H [] :=
  ⟨⟨⟨fun a o h => ⟨o, (bareG_some h).1, .inl rfl⟩⟩, fun i z => ⟨#[], h0 i z, True.intro, fun pos cv hc => by cases hc⟩, fun c ⟨q, P, h⟩ => absurd rfl ((bareG_some h).2.2 _), fun a ps h => (bareG_some h).2.1 ps rfl⟩, fun i d h => by simp at h, fun i d h => by simp at h, fun i j d d' a h => by simp at h, fun i d h => by simp at h, fun a h => by simp at h, rfl, List.nodup_nil, rfl, fun i x h => by simp at h⟩
def spLaw (K : PySem.W.Frag) : Sp := fun vs H Q _ => ∃ (a : Addr) (ns : List Int), vs = [.ref a] ∧ SqL K H a (ns.map V.int) ∧ ns.length ≤ 63 ∧ ∀ H', Q (.bl true) H'
theorem law_imp {k : Nat} {f : Addr} {fd : FuncData} {ps : List Str} {F : List D → List D → Res D} (h : FnOk P w K mg base (L2.CX P w) k f fd ps (spD ⟨K, cls⟩ 1 F)) (h0 : ∀ i, cls (i + 1000) = 0) (hF : ∀ ns : List Int, ns.length ≤ 63 → ∃ S, F [.scr ns] [] = .ok (.bl true) S) :
    FnOk P w K mg base (L2.CX P w) k f fd ps (spLaw K) := h.imp fun vs H Q E ⟨a, ns, e, hS, hl, q⟩ => by
  subst e
  obtain ⟨S', hS'⟩ := hF ns hl
  refine ⟨[], [], bareG H, [.scr ns], mem_begin fun i z => absurd (h0 i) z, .cons (rep_scr.mpr ⟨a, rfl, bareG_sqL hS⟩) .nil, rfl, ?_⟩
  rw [hS']
  intro v ρ' G' H' m n r
  rw [rep_bl.mp r]
  exact q H'
end
end DL

namespace DL
open PySem PySem.Spec PyProof.Rows L2
/-! ### defs that run where no repr is under way -/
structure RoomG (k : Nat) (A : Around) : Prop extends Room k A where
  gd : A.guards = some []
theorem RoomG.deep {k : Nat} {A : Around} (r : RoomG (k + 1) A) (env : Env) : RoomG k (A.deeper env) := ⟨r.toRoom.deeper env, r.gd⟩
theorem RoomG.less {j k : Nat} {A : Around} (r : RoomG k A) (h : j ≤ k) : RoomG j A := ⟨r.toRoom.mono h, r.gd⟩
structure FnG (P : Program) (w : World) (K : PySem.W.Frag) (mg : Str → Option Value) (base : Heap) (k : Nat) (f : Addr) (fd : FuncData) (ps : List Str) (sp : Sp) : Prop where
  lng : ∀ vs H Q E, sp vs H Q E → vs.length = ps.length
  goes : ∀ (A : Around) (o : List Env) (s : Shared) (H : Hp) (ar : Args) (us : List Value) (vs : List V) (Q : VK) (E : XK), RoomG k A → Env0 P w K mg base A o s H → BindsTo s fd ar (ps.zip us) → Vals vs us → sp vs H Q E →
    codeAny (model P w) A (.call (.ref f) ar) (CR (L2.CX P w) o P w H s Q E) s
section
variable {P : Program} {w : World} {K : PySem.W.Frag} {mg : Str → Option Value} {base : Heap} {cls : Nat → Addr}
theorem FnG.weak {k : Nat} {f : Addr} {fd : FuncData} {ps : List Str} {sp sp2 : Sp} (F : FnG P w K mg base k f fd ps sp) (i : ∀ vs H Q E, sp2 vs H Q E → sp vs H Q E) : FnG P w K mg base k f fd ps sp2 :=
  ⟨fun vs H Q E h => F.lng vs H Q E (i _ _ _ _ h), fun A o s H ar us vs Q E r e b v h => F.goes A o s H ar us vs Q E r e b v (i _ _ _ _ h)⟩
theorem fnG_stuck {k : Nat} {f : Addr} {fd : FuncData} {ps : List Str} {C : Cn} {F : List D → List D → Res D} (h : ∀ ds S, F ds S = .stuck) : FnG P w K mg base k f fd ps (spD C ps.length F) := by
  have no : ∀ vs H Q E, ¬ spD C ps.length F vs H Q E := fun vs H Q E h' => by
    obtain ⟨S, ρ, G, ds, _, _, _, z⟩ := h'
    rw [h] at z; exact z
  exact ⟨fun vs H Q E h => absurd h (no vs H Q E), fun A o s H ar us vs Q E _ _ _ _ h => absurd h (no vs H Q E)⟩
theorem lawG_imp {k : Nat} {f : Addr} {fd : FuncData} {ps : List Str} {F : List D → List D → Res D} (h : FnG P w K mg base k f fd ps (spD ⟨K, cls⟩ 1 F)) (h0 : ∀ i, cls (i + 1000) = 0) (hF : ∀ ns : List Int, ns.length ≤ 63 → ∃ S, F [.scr ns] [] = .ok (.bl true) S) :
    FnG P w K mg base k f fd ps (spLaw K) := h.weak fun vs H Q E ⟨a, ns, e, hS, hl, q⟩ => by
  subst e
  obtain ⟨S', hS'⟩ := hF ns hl
  refine ⟨[], [], bareG H, [.scr ns], mem_begin fun i z => absurd (h0 i) z, .cons (rep_scr.mpr ⟨a, rfl, bareG_sqL hS⟩) .nil, rfl, ?_⟩
  rw [hS']
  intro v ρ' G' H' m n r
  rw [rep_bl.mp r]
  exact q H'
theorem defG_ok {x qual : Str} {st : Stmt} {f : Addr} {fd : FuncData} {N ps : List Str} {k : Nat} {δ : Ds} (F : Fun K x qual st f fd) (Sc : FnScope N ps (defScope st))
    (hbody : ∀ (cdv : Value) (A : Around) (outer : List Env) (s : Shared) (H : Hp) (E : XK), RoomG k (A.deeper (envOfC qual (defScope st) s.heap.objs.size f cdv)) →
      DSs (cxOf (L2.CX P w) P w K mg base N qual (defScope st) f cdv A outer s H E) cls (fun c d _ H => E c d H) (defBody st) δ) : FnG P w K mg base (k + 1) f fd ps (spD ⟨K, cls⟩ ps.length (bodyRun N.length δ)) := by
  obtain ⟨oc, od, kV, doc, pm, an, cdv, ct, osl, rfl, lk, hcd⟩ := F.ex
  have ln : ∀ vs H Q E, spD ⟨K, cls⟩ ps.length (bodyRun N.length δ) vs H Q E → vs.length = ps.length := fun vs H Q E h => by obtain ⟨_, _, _, _, _, _, h, _⟩ := h; exact h
  refine ⟨ln, fun A o s0 H ar us vs Q E rm e0 bd rv h => ?_⟩
  refine LamX.run_ofS lk hcd Sc rm.toRoom e0 bd rv (ln _ _ _ _ h) fun _ => ⟨_, hbody cdv A o s0 H E (rm.deep _), ?_⟩
  obtain ⟨S, ρ, G, ds, m, r, hl, h⟩ := h
  refine ⟨⟨ρ, G, H, G, ρ, H⟩, _, S, ρ, G, ⟨start_mem m r, .refl, fun i d a h1 h2 => ?_, .refl, List.prefix_refl _, .refl⟩, ?_⟩
  · exfalso
    have hm := List.mem_of_getElem? h1
    rcases List.mem_append.mp hm with z | z
    · obtain ⟨_, _, e⟩ := List.mem_map.mp z; cases e
    · cases (List.eq_of_mem_replicate z)
  · unfold bodyRun at h
    cases q : δ (ds.map Sl.val ++ List.replicate (N.length - ds.length) Sl.non) S with
    | next Γ S' => rw [q] at h; exact fun ρ' G' H' σ' s' => h .non ρ' G' H' s'.mem.toS s'.nx (rep_non.mpr rfl)
    | ret d S' => rw [q] at h; exact fun v ρ' G' H' m' n' _ r' => h v ρ' G' H' m' n' r'
    | exc e Γ S' => rw [q] at h; exact fun c dx ρ' G' H' σ' s' er => h c dx ρ' G' H' s'.mem.toS s'.nx er
    | brk _ _ => rw [q] at h; exact h.elim
    | cont _ _ => rw [q] at h; exact h.elim
    | stuck => rw [q] at h; exact h.elim
/-- the same; the law begins with tables of code objects, empty -/
def spLawT (K : PySem.W.Frag) (cls : Nat → Addr) : Sp := fun vs H Q _ => ∃ (a : Addr) (ns : List Int), vs = [.ref a] ∧ SqL K H a (ns.map V.int) ∧ ns.length ≤ 63 ∧ (∀ i, cls (i + 1000) ≠ 0 → H (cls (i + 1000)) = some (.tbl #[])) ∧ ∀ H', Q (.bl true) H'
theorem lawT_imp {k : Nat} {f : Addr} {fd : FuncData} {ps : List Str} {F : List D → List D → Res D} (h : FnG P w K mg base k f fd ps (spD ⟨K, cls⟩ 1 F)) (hF : ∀ ns : List Int, ns.length ≤ 63 → ∃ S, F [.scr ns] [] = .ok (.bl true) S) :
    FnG P w K mg base k f fd ps (spLawT K cls) := h.weak fun vs H Q E ⟨a, ns, e, hS, hl, ht, q⟩ => by
  subst e
  obtain ⟨S', hS'⟩ := hF ns hl
  refine ⟨[], [], bareG H, [.scr ns], mem_begin ht, .cons (rep_scr.mpr ⟨a, rfl, bareG_sqL hS⟩) .nil, rfl, ?_⟩
  rw [hS']
  intro v ρ' G' H' m n r
  rw [rep_bl.mp r]
  exact q H'
/-- a def whose code object is known -/
theorem defC_ok {x qual : Str} {st : Stmt} {f : Addr} {fd : FuncData} {N ps : List Str} {k : Nat} {δ : Ds} {c : Addr} (F : Fun K x qual st f fd) (ec : fd.code = .ref c) (Sc : FnScope N ps (defScope st))
    (hbody : ∀ (A : Around) (outer : List Env) (s : Shared) (H : Hp) (E : XK), RoomG k (A.deeper (envOfC qual (defScope st) s.heap.objs.size f (.ref c))) →
      DSs (cxOf (L2.CX P w) P w K mg base N qual (defScope st) f (.ref c) A outer s H E) cls (fun c d _ H => E c d H) (defBody st) δ) : FnG P w K mg base (k + 1) f fd ps (spD ⟨K, cls⟩ ps.length (bodyRun N.length δ)) := by
  obtain ⟨oc, od, kV, doc, pm, an, cdv, ct, osl, rfl, lk, hcd⟩ := F.ex
  have ec : cdv = .ref c := ec
  subst ec
  have ln : ∀ vs H Q E, spD ⟨K, cls⟩ ps.length (bodyRun N.length δ) vs H Q E → vs.length = ps.length := fun vs H Q E h => by obtain ⟨_, _, _, _, _, _, h, _⟩ := h; exact h
  refine ⟨ln, fun A o s0 H ar us vs Q E rm e0 bd rv h => ?_⟩
  refine LamX.run_ofS lk hcd Sc rm.toRoom e0 bd rv (ln _ _ _ _ h) fun _ => ⟨_, hbody A o s0 H E (rm.deep _), ?_⟩
  obtain ⟨S, ρ, G, ds, m, r, hl, h⟩ := h
  refine ⟨⟨ρ, G, H, G, ρ, H⟩, _, S, ρ, G, ⟨start_mem m r, .refl, fun i d a h1 h2 => ?_, .refl, List.prefix_refl _, .refl⟩, ?_⟩
  · exfalso
    have hm := List.mem_of_getElem? h1
    rcases List.mem_append.mp hm with z | z
    · obtain ⟨_, _, e⟩ := List.mem_map.mp z; cases e
    · cases (List.eq_of_mem_replicate z)
  · unfold bodyRun at h
    cases q : δ (ds.map Sl.val ++ List.replicate (N.length - ds.length) Sl.non) S with
    | next Γ S' => rw [q] at h; exact fun ρ' G' H' σ' s' => h .non ρ' G' H' s'.mem.toS s'.nx (rep_non.mpr rfl)
    | ret d S' => rw [q] at h; exact fun v ρ' G' H' m' n' _ r' => h v ρ' G' H' m' n' r'
    | exc e Γ S' => rw [q] at h; exact fun c dx ρ' G' H' σ' s' er => h c dx ρ' G' H' s'.mem.toS s'.nx er
    | brk _ _ => rw [q] at h; exact h.elim
    | cont _ _ => rw [q] at h; exact h.elim
    | stuck => rw [q] at h; exact h.elim
end
/-! ### a call -/
section
variable {X : Cx} {cls : Nat → Addr} {W : WX} {k : Nat} {f : Addr} {fd : FuncData} {ps : List Str} {x : Str} {p pos : Pos} {e : Expr} {es : List Expr} {α : Da} {F : List D → List D → Res D} {sp : Sp}
theorem goesG {pins : List (Addr × Obj)} {σ : L2.St} {H : Hp} {s : Shared} {Q : VK} {E : XK} {us : List Value} {vs : List V} (Fn : FnG X.prog X.w X.K X.mg X.base k f fd ps sp) (rm : RoomG k X.A) (bd : Binds X.K fd ps []) (pa : PassesAt (L2.CX X.prog X.w) X σ E)
    (I : Inv X pins σ H s) (rv : Vals vs us) (h : sp vs H Q E) : wpAny (model X.prog X.w) X.A (call (.ref f) us) (EP X pins σ Q) X.xe s := by
  have b2 : BindsTo s fd ⟨us, []⟩ (ps.zip us) := by
    have z := bd s us I.kIn (by rw [List.append_nil, ← rv.length]; exact Fn.lng _ _ _ _ h)
    rwa [List.append_nil] at z
  refine wpAny_call (codeAny_mono (Fn.goes X.A X.stack s H ⟨us, []⟩ us vs Q E rm I.env0 b2 rv h) ?_)
  rintro (er | ⟨u⟩ | _ | _ | _) s2 hq
  all_goals first | exact pa pins H s er s2 I hq | exact I.after hq | exact hq.elim
theorem exG {δ : Da} {σ : L2.St} {H : Hp} {Q : VK} (tk : Takes X W) (hal : ALen δ ps.length) (h : tE ⟨X.K, cls⟩ W (RS ⟨X.K, cls⟩) (eCall F δ) σ H Q) :
    tA ⟨X.K, cls⟩ W δ σ H fun vs H1 => spD ⟨X.K, cls⟩ ps.length F vs H1 Q (fun c d H2 => W c d σ H2) := by
  obtain ⟨Γ, S, ρ, G, m, p⟩ := h
  refine ⟨Γ, S, ρ, G, m, ?_⟩
  unfold eCall at p
  cases q : δ Γ S with
  | ok ds S1 =>
    rw [q] at p
    intro vs ρ1 G1 H1 m1 n1 r1
    refine ⟨S1, ρ1, G1, ds, m1.toS, r1, by rw [← r1.length]; exact hal.le _ _ _ _ q, ?_⟩
    simp only [Res.bind_ok] at p
    cases z : F ds S1 with
    | ok d S2 => rw [z] at p; exact fun v ρ2 G2 H2 m2 n2 r2 => p v ρ2 G2 H2 (m1.step n2 m2) (n1.trans n2) r2
    | exc x S2 => rw [z] at p; exact fun c dx ρ2 G2 H2 m2 n2 r2 => p c dx ρ2 G2 H2 (m1.step n2 m2) (n1.trans n2) r2
    | stuck => rw [z] at p; exact p
  | exc x S1 => rw [q] at p; exact p
  | stuck => rw [q] at p; exact p
theorem de_callG (Fn : FnG X.prog X.w X.K X.mg X.base k f fd ps (spD ⟨X.K, cls⟩ ps.length F)) (tk : Takes X W) (rm : RoomG k X.A) (hg : Gl X x) (hm : X.mg x = some (.ref f)) (hk : PySem.W.keepIn X.K (.ref f) = true) (bd : Binds X.K fd ps [])
    (ha : DA X cls W (e :: es) α) (hal : ALen α ps.length) (hdb : (x == ("__debug__" : Str)) = false := by decide) (he : starEach (e :: es) X.env = (false, eval e X.env) :: starEach es X.env := by rfl) (pl : (backTo pos (starEach es X.env)).any (·.1) = false := by rfl) :
    DE X cls W (.Call (.Name x p) (e :: es) [] pos) (eCall F α) := ⟨fun pins s σ H Q I h => by
  refine wpAny_Call_Name_kw (ld_glob I hg hm ?_ hdb)
  exact PySem.W.callWith_K (h₀ := X.base) I.ok.mod.kin hk (thn (ha.run pos pins s σ H _ I (exG tk hal h)) fun us s1 ⟨vs, H1, I1, rv, q⟩ => ⟨I1.kIn, goesG Fn rm bd (passAt tk σ) I1 rv q⟩) he pl⟩
theorem de_call0G (Fn : FnG X.prog X.w X.K X.mg X.base k f fd [] (spD ⟨X.K, cls⟩ 0 F)) (tk : Takes X W) (rm : RoomG k X.A) (hg : Gl X x) (hm : X.mg x = some (.ref f)) (hk : PySem.W.keepIn X.K (.ref f) = true) (bd : Binds X.K fd [] [])
    (hdb : (x == ("__debug__" : Str)) = false := by decide) : DE X cls W (.Call (.Name x p) [] [] pos) (eCall F aNil) := ⟨fun pins s σ H Q I h => by
  refine wpAny_Call_Name_kw (ld_glob I hg hm ?_ hdb)
  refine PySem.W.callWith_K0 I.kIn hk (goesG (us := []) (vs := []) Fn rm bd (passAt tk σ) I .nil ?_)
  obtain ⟨Γ, S, ρ, G, m, p⟩ := exG (ps := []) (δ := aNil) tk ALen.nil h
  exact p [] ρ G H m .refl .nil⟩
end
end DL

namespace DL
open PySem PySem.Spec PyProof.Rows L2
/-! ### the law's end -/
def scrO (vs : List Value) : Obj := { cls := .type "list", data := .seq vs.toArray }
/-- the script alone -/
def hpOne (K : PySem.W.Frag) (a : Addr) (u : HO) : Hp := fun b => if b = a ∧ K.lookup a = none then some u else none
theorem hpOne_some {K : PySem.W.Frag} {a b : Addr} {u t : HO} (h : hpOne K a u b = some t) : b = a ∧ K.lookup a = none ∧ t = u := by
  unfold hpOne at h
  split at h
  · rename_i q; cases h; exact ⟨q.1, q.2, rfl⟩
  · cases h
theorem hpOne_off {K : PySem.W.Frag} {a b : Addr} {u : HO} (h : b = a → K.lookup a ≠ none) : hpOne K a u b = none := if_neg fun q => h q.1 q.2
section
variable {P : Program} {w : World} {K : PySem.W.Frag} {mg mb : Str → Option Value} {k : Nat} {fa a : Addr} {fd : FuncData} {x : Str} {s : Shared} {vs : List Value} {ns : List Int}
theorem law_endG (kin : K.In s.heap) (mN : s.heap.Ns mainGlobals mg) (bN : s.heap.Ns builtinsNs mb) (bb : ∀ y : Str, y ≠ "__name__" → mb y = bootBuiltins y) (nl : s.heap.NoLimit) (ng : s.gens = #[])
    (ao : s.heap.get? a = some (scrO vs)) (ii : IntsAre vs ns) (il : ns.length ≤ 63) (rm : RoomG k callerA)
    (F : ∀ base : Heap, K.In base → base.Ns mainGlobals mg → FnG P w K mg base k fa fd [x] (spLaw K)) (bd : ∀ (s : Shared) (u : Value), BindsTo s fd ⟨[u], []⟩ [(x, u)]) :
    codeAny (model P w) callerA (.call (.ref fa) ⟨[.ref a], []⟩) (fun r t => r = .ok (.ret (.bool true)) ∧ OldK s.heap t.heap ∧ t.os = s.os ∧ AllBare t.gens) s := by
  have iv := vals_ints ii
  have sl : ns.length ≤ sizeLine := Nat.le_trans il (by decide)
  obtain ⟨H, eH⟩ : ∃ H, H = hpOne K a (.frz (scrO vs) (.lst (ns.map V.int))) := ⟨_, rfl⟩
  -- the heap without the script
  have low : ∀ (b : Addr) (o : Obj), s.heap.get? b = some o → (b = a → K.lookup a ≠ none) → (hidT s.heap H).get? b = some o := fun b o e n => hidT_get e (by rw [eH]; exact hpOne_off n)
  have dic : ∀ {b : Addr} {o : Obj} {es : Array DictEntry} {n : Nat}, s.heap.get? b = some o → o.data = .dict es n → (hidT s.heap H).get? b = some o := fun {b o es n} e d => low b o e fun q => by
    subst q
    rw [ao] at e; cases e
    exact (show False by have d2 : Data.seq vs.toArray _ = Data.dict es n := d; cases d2).elim
  have nsD : ∀ {b : Addr} {m : Str → Option Value}, s.heap.Ns b m → (hidT s.heap H).Ns b m := fun {b m} ⟨o, es, n, e, d, r⟩ => ⟨o, es, n, dic e d, d, r⟩
  have kinD : K.In (hidT s.heap H) := fun b o e => low b o (kin b o e) fun q => by subst q; rw [e]; exact nofun
  have md : L2.Mod K mg (hidT s.heap H) := ⟨kinD, nsD mN, ⟨mb, nsD bN, bb⟩, by obtain ⟨mc, u1, u2⟩ := nl; exact ⟨mc, nsD u1, u2⟩⟩
  have held : HOk P w H s.heap := fun b t e => by
    rw [eH] at e
    obtain ⟨rfl, _, rfl⟩ := hpOne_some e
    exact ⟨ao, by rw [List.length_map]; exact sl, vs, _, iv, ao⟩
  have ev : Env0 P w K mg (hidT s.heap H) callerA [] s H := ⟨rfl, md, fun b o e => of_hidT e, Nat.le_of_eq (hidT_size _ _), trivial, fun b z => (List.not_mem_nil z).elim, held, .of_eq ng⟩
  have sq : SqL K H a (ns.map V.int) := by
    cases q : K.lookup a with
    | none => exact .inl (.inr ⟨scrO vs, by rw [eH]; exact if_pos ⟨rfl, q⟩⟩)
    | some o =>
      have e := kin a o q
      rw [ao] at e; cases e
      exact .inr ⟨_, vs.toArray, _, q, rfl, rfl, rfl, by rw [List.size_toArray, ii.length]; exact sl, by simpa using iv⟩
  refine codeAny_mono ((F _ kinD (nsD mN)).goes callerA [] s H ⟨[.ref a], []⟩ [.ref a] [.ref a] (fun v _ => v = .bl true) (fun _ _ _ => False) rm ev (bd s (.ref a)) (.cons rfl .nil) ⟨a, ns, rfl, sq, il, fun _ => rfl⟩) ?_
  intro r t h
  match r, h with
  | .error er, h => obtain ⟨_, _, _, _, _, _, _, _, _, _, _, _, z⟩ := h; exact z.elim
  | .ok .next, h => exact h.elim
  | .ok .brk, h => exact h.elim
  | .ok .cont, h => exact h.elim
  | .ok (.ret u), h =>
    obtain ⟨v, H2, os, bare, un, held2, rv, q⟩ := h
    have qv : v = .bl true := q
    subst qv
    obtain rfl : u = Value.bool true := rv
    refine ⟨rfl, OldK.of_keep fun b o e => ?_, os, bare⟩
    cases z : H b with
    | none => exact un.keep b o e z (fun c => List.not_mem_nil c) (fun c => List.not_mem_nil c)
    | some t2 =>
      have z2 := z
      rw [eH] at z2
      obtain ⟨rfl, _, rfl⟩ := hpOne_some z2
      rw [ao] at e; cases e
      exact (held2 b _ (un.frzs b _ _ z)).1
theorem law_headG {l : PySem.W.OpenLaw} {q : Program} {loose : List Str} {XP : (Str → Option Value) → Heap → Prop} {YP : World → Heap → Prop} {d : DefRec} {K : Params → PySem.W.Frag}
    (hn : l.most = some 63) (hdf : d.params.defaults = []) (rm : RoomG k callerA) (hY : ∀ (w : World) (h : Heap), YP w h → (K w.params).In h)
    (F : ∀ (w : World) (mg : Str → Option Value) (fa : Addr) (h : Heap), (K w.params).In h → h.Ns mainGlobals mg → mg d.name = some (.ref fa) →
      ∃ fd : FuncData, (∀ (s : Shared) (u : Value), BindsTo s fd ⟨[u], []⟩ [(x, u)]) ∧ ∀ base : Heap, (K w.params).In base → base.Ns mainGlobals mg → FnG l.prog w (K w.params) mg base k fa fd [x] (spLaw (K w.params))) :
    PySem.W.WalkO q loose XP YP l.row.toRowW d [] (fun f vs => PySem.call f vs) := by
  refine Att.attach_callB hn hdf fun w s0 s1 mg mb fa o pm cd doc a vs ns G Y ho hd hcd hmg hobj hints hlen hbits hg => ?_
  obtain ⟨fd, bd, hF⟩ := F w mg fa _ (hY w _ Y) G.T.g hmg
  exact law_endG (hY w _ Y) G.T.g G.T.b G.T.builtins G.T.nolimit hg hobj hints hlen rm hF bd
end
end DL

namespace DL
open PySem PySem.Spec PyProof.Rows L2
section
variable {C : Cn} {X : Cx} {cls : Nat → Addr} {W : WX} {a b c e : Expr} {δa δb δc : De} {pos p : Pos}
/-! ### a ≤ b ≤ c -/
theorem x_chain {R R' : R2} {f g : D → D → Option D} (hf : R2Ok ⟨X.K, cls⟩ (RS ⟨X.K, cls⟩) R f) (hg : R2Ok ⟨X.K, cls⟩ (RS ⟨X.K, cls⟩) R' g) {σ : L2.St} {H : Hp} {Q : VK} (h : tE ⟨X.K, cls⟩ W (RS ⟨X.K, cls⟩) (eChain f g δa δb δc) σ H Q) :
    tChain R R' (tE ⟨X.K, cls⟩ W (RO ⟨X.K, cls⟩) δa) (tE ⟨X.K, cls⟩ W (RO ⟨X.K, cls⟩) δb) (tE ⟨X.K, cls⟩ W (RO ⟨X.K, cls⟩) δc) σ H Q := by
  obtain ⟨Γ, S, ρ, G, m, p⟩ := h
  refine ⟨Γ, S, ρ, G, m, (Post.seq back_RS p).mono fun x H1 ⟨dx, S1, ρ1, G1, m1, n1, r1, p1⟩ => ⟨Γ, S1, ρ1, G1, m1, (Post.seq back_RS p1).mono fun y H2 ⟨dy, S2, ρ2, G2, m2, n2, r2, p2⟩ => ?_⟩⟩
  cases q : f (deref S2 dx) (deref S2 dy) with
  | none => rw [q] at p2; exact p2.elim
  | some k =>
    rw [q] at p2
    simp only [ofO_some, Res.bind_ok] at p2
    refine hf S2 ρ2 G2 H2 x y k _ _ _ m2.toS (m2.read (RO.step (H1 := H2) n2 r1)) (m2.read r2) q fun v ρ3 G3 H3 m3 n3 r3 => ?_
    cases k <;> try exact p2.elim
    rename_i kb
    refine ⟨kb, rep_bl.mp r3, ?_⟩
    have m3' := m2.step n3 m3
    cases kb with
    | false => exact p2.here (S := S2) m3' n3 (rep_bl.mpr rfl)
    | true =>
      have p3 := Post.shift back_RS p2 n3
      refine ⟨Γ, S2, ρ3, G3, m3', (Post.seq back_RS p3).mono fun z H4 ⟨dz, S4, ρ4, G4, m4, n4, r4, p4⟩ => ?_⟩
      obtain ⟨d, hd, p5⟩ := ofO_post p4
      exact hg S4 ρ4 G4 H4 y z d _ _ Q m4.toS (m4.read (RO.step (H1 := H4) (n3.trans n4) r2)) (m4.read r4) hd fun v ρ5 G5 H5 m5 n5 r5 => p5.here (m4.step n5 m5) n5 r5
theorem de_chain (ha : DO X cls W a δa) (hb : DO X cls W b δb) (hc : DO X cls W c δc) (hm : lastMarks [.LtE, .LtE] [b, c] = false := by with_unfolding_all rfl) : DE X cls W (.Compare a [.LtE, .LtE] [b, c] pos) (eChain oLe oLe δa δb δc) :=
  PE.weak (pe_chain or_le or_le ha hb hc hm) fun _ _ _ h => x_chain ok_ord ok_ord h
theorem dt_chain (ha : DO X cls W a δa) (hb : DO X cls W b δb) (hc : DO X cls W c δc) (hm : lastMarks [.LtE, .LtE] [b, c] = false := by with_unfolding_all rfl) : DT X cls W (.Compare a [.LtE, .LtE] [b, c] pos) (tB (eChain oLe oLe δa δb δc)) :=
  PT.weak (pt_chain or_le or_le ha hb hc hm) fun σ H Q ⟨Γ, S, ρ, G, m, p⟩ => by
    refine x_chain (W := W) (cls := cls) ok_ord ok_ord ⟨Γ, S, ρ, G, m, (Post.seq back_RB p).mono fun v H1 ⟨d, S1, ρ1, G1, m1, n1, r1, p1⟩ => ?_⟩
    obtain ⟨k, hk, p2⟩ := ofO_post p1
    cases d <;> try cases hk
    exact ⟨k, rep_bl.mp r1, p2.at m1 rfl⟩
/-! ### abs, max, min, sum -/
def dAbs : D → Option D
  | .int i => some (.int (if i < 0 then -i else i))
  | _ => none
def dMax : D → D → Option D
  | .int i, .int j => some (.int (if j > i then j else i))
  | _, _ => none
def dMin : D → D → Option D
  | .int i, .int j => some (.int (if j < i then j else i))
  | _, _ => none
def asInts : List D → Option (List Int)
  | [] => some []
  | .int i :: r => (asInts r).map (i :: ·)
  | _ :: _ => none
def dSum : D → Option D
  | .lst xs => (asInts xs).map fun l => .int l.sum
  | _ => none
theorem reps_ints {ρ : List Addr} {G : Hp} : ∀ {ds : List D} {vs : List V} {l : List Int}, Reps C ρ G ds vs → asInts ds = some l → vs = l.map V.int
  | [], _, _, h, e => by rw [asInts] at e; cases e; exact h.inv0
  | x :: r, _, l, h, e => by
    obtain ⟨v, vs, rfl, h1, h2⟩ := h.inv
    cases x <;> rw [asInts] at e <;> try cases e
    rename_i i
    cases q : asInts r with
    | none => rw [q] at e; cases e
    | some l' =>
      rw [q] at e; cases e
      rw [reps_ints h2 q, rep_int.mp h1]; rfl
    all_goals exact nofun
theorem rc_abs : RC1 C (RS C) (fun xs H Q => ∃ i, xs = [.int i] ∧ Q (.int (if i < 0 then -i else i)) H) dAbs := fun S ρ G H x d dx Q m rx e q => by
  cases dx <;> try cases e
  rw [rt_int] at rx; subst rx
  exact ⟨_, rfl, q _ _ _ _ m .refl (rep_int.mpr rfl)⟩
theorem rc_max : RC2 C (RS C) (fun xs H Q => ∃ i j, xs = [.int i, .int j] ∧ Q (.int (if j > i then j else i)) H) dMax := fun S ρ G H x y d dx dy Q m rx ry e q => by
  cases dx <;> cases dy <;> try cases e
  rw [rt_int] at rx ry; subst rx; subst ry
  exact ⟨_, _, rfl, q _ _ _ _ m .refl (rep_int.mpr rfl)⟩
theorem rc_min : RC2 C (RS C) (fun xs H Q => ∃ i j, xs = [.int i, .int j] ∧ Q (.int (if j < i then j else i)) H) dMin := fun S ρ G H x y d dx dy Q m rx ry e q => by
  cases dx <;> cases dy <;> try cases e
  rw [rt_int] at rx ry; subst rx; subst ry
  exact ⟨_, _, rfl, q _ _ _ _ m .refl (rep_int.mpr rfl)⟩
theorem rc_sum : RC1 C (RS C) (rSum C.K) dSum := fun S ρ G H x d dx Q m rx e q => by
  cases dx <;> try cases e
  rename_i xs
  obtain ⟨a, vs, rfl, h1, r1⟩ := rx
  simp only [dSum] at e
  cases k : asInts xs with
  | none => rw [k] at e; cases e
  | some l =>
    rw [k] at e; cases e
    have z := reps_ints r1 k
    subst z
    exact ⟨a, l, rfl, SqL.of h1, q _ _ _ _ m .refl (rep_int.mpr rfl)⟩
theorem de_abs (hg : Gl X "abs") (hm : X.mg "abs" = none) (ha : DO X cls W a δa) (he : starEach [a] X.env = (false, eval a X.env) :: starEach [] X.env := by rfl) (hpl : (backTo pos (starEach [] X.env)).any (·.1) = false := by rfl) : DE X cls W (.Call (.Name "abs" p) [a] [] pos) (eUn dAbs δa) :=
  x_c1 back_RS (pe_callB call_abs hg hm (by decide +kernel) (da1 ha he) (by decide) (by decide) he hpl) rc_abs
theorem de_sum (hg : Gl X "sum") (hm : X.mg "sum" = none) (hc : X.calm = true) (ha : DO X cls W a δa) (he : starEach [a] X.env = (false, eval a X.env) :: starEach [] X.env := by rfl) (hpl : (backTo pos (starEach [] X.env)).any (·.1) = false := by rfl) : DE X cls W (.Call (.Name "sum" p) [a] [] pos) (eUn dSum δa) :=
  x_c1 back_RS (pe_callB (cr_sum hc) hg hm (by decide +kernel) (da1 ha he) (by decide) (by decide) he hpl) rc_sum
theorem de_max (hg : Gl X "max") (hm : X.mg "max" = none) (hc : X.calm = true) (ha : DO X cls W a δa) (hb : DO X cls W b δb) (he : starEach [a, b] X.env = (false, eval a X.env) :: starEach [b] X.env := by rfl) (he2 : starEach [b] X.env = (false, eval b X.env) :: starEach [] X.env := by rfl)
    (hpl : (backTo pos (starEach [b] X.env)).any (·.1) = false := by rfl) : DE X cls W (.Call (.Name "max" p) [a, b] [] pos) (eOp dMax δa δb) :=
  x_c2 back_RS (pe_callB (call_max2 hc) hg hm (by decide +kernel) (da2 ha hb he he2) (by decide) (by decide) he hpl) rc_max
theorem de_min (hg : Gl X "min") (hm : X.mg "min" = none) (hc : X.calm = true) (ha : DO X cls W a δa) (hb : DO X cls W b δb) (he : starEach [a, b] X.env = (false, eval a X.env) :: starEach [b] X.env := by rfl) (he2 : starEach [b] X.env = (false, eval b X.env) :: starEach [] X.env := by rfl)
    (hpl : (backTo pos (starEach [b] X.env)).any (·.1) = false := by rfl) : DE X cls W (.Call (.Name "min" p) [a, b] [] pos) (eOp dMin δa δb) :=
  x_c2 back_RS (pe_callB (call_min2 hc) hg hm (by decide +kernel) (da2 ha hb he he2) (by decide) (by decide) he hpl) rc_min
/-! ### repr of lists and tuples -/
def isSq : D → Bool | .lst _ => true | .tup _ => true | _ => false
def dRepr (d : D) : Option D := match toPy d with
  | some q => if isSq d = true ∧ q.showable = true ∧ q.hasDict = false ∧ q.depth ≤ 180 ∧ q.shown.length ≤ sizeLine then some (.str q.shown) else none
  | none => none
theorem call_reprG (hu : X.A.units + 190 < cLine) (gd : X.A.guards = some []) : CallR X (.builtin "repr") (fun xs H Q => ∃ a q, xs = [.ref a] ∧ Dp X.K H (.ref a) q ∧ q.showable = true ∧ q.hasDict = false ∧ q.depth ≤ 180 ∧ q.shown.length ≤ sizeLine ∧ Q (.str q.shown) H) := by
  intro pins s σ H xs us Q I r h
  obtain ⟨a, q, rfl, hd, hs, hD, hdp, hl, k⟩ := h
  obtain ⟨u, rfl, ru⟩ := vals1 r
  obtain ⟨as, rd⟩ := Dp.reads I q _ _ hd ru
  obtain rfl : u = Value.ref a := ru
  exact repr_of_reads' rd hs (fun z => by rw [hD] at z; cases z) gd (by omega) (fun _ _ z => z) (fun h' u tk hk => ⟨.str _, H, I.kept hk, ⟨_, rfl⟩, k⟩) hl
theorem rc_repr : RC1 C (RS C) (fun xs H Q => ∃ a q, xs = [.ref a] ∧ Dp C.K H (.ref a) q ∧ q.showable = true ∧ q.hasDict = false ∧ q.depth ≤ 180 ∧ q.shown.length ≤ sizeLine ∧ Q (.str q.shown) H) dRepr := fun S ρ G H x d dx Q m rx e q => by
  unfold dRepr at e
  split at e
  · rename_i y hy
    split at e
    · rename_i c
      cases e
      obtain ⟨c1, c2, c3, c4, c5⟩ := c
      have dp := dp_rt m.sub rx hy
      have : ∃ a, x = V.ref a := by
        cases dx <;> try cases c1
        · obtain ⟨a, vs, rfl, _⟩ := rx; exact ⟨a, rfl⟩
        · rw [rt_tup] at rx; obtain ⟨a, vs, rfl, _⟩ := rx; exact ⟨a, rfl⟩
      obtain ⟨a, rfl⟩ := this
      exact ⟨a, y, rfl, dp, c2, c3, c4, c5, q _ _ _ _ m .refl (rep_str.mpr rfl)⟩
    · cases e
  · cases e
theorem de_repr {k : Nat} (rm : RoomG k X.A) (hg : Gl X "repr") (hm : X.mg "repr" = none) (ha : DO X cls W a δa) (he : starEach [a] X.env = (false, eval a X.env) :: starEach [] X.env := by rfl) (hpl : (backTo pos (starEach [] X.env)).any (·.1) = false := by rfl) : DE X cls W (.Call (.Name "repr" p) [a] [] pos) (eUn dRepr δa) :=
  x_c1 back_RS (pe_callB (call_reprG (by have := rm.un; omega) rm.gd) hg hm (by decide +kernel) (da1 ha he) (by decide) (by decide) he hpl) rc_repr
end
/-! ### found.reverse() -/
section
variable {X : Cx} {cls : Nat → Addr} {W : WX} {c : Expr} {pos : Pos}
def sRevO (i : Nat) : Ds := fun Γ S => match Γ[i]? with
  | some (.own (.lst xs)) => .next (Γ.set i (.own (.lst xs.reverse))) S
  | _ => .stuck
theorem Reps.rev {C : Cn} {ρ : List Addr} {G : Hp} : ∀ {ds : List D} {vs : List V}, Reps C ρ G ds vs → Reps C ρ G ds.reverse vs.reverse
  | [], _, h => by rw [h.inv0]; exact Reps.nil
  | x :: xs, _, h => by
    obtain ⟨v, r, rfl, h1, h2⟩ := h.inv
    rw [List.reverse_cons, List.reverse_cons]
    exact (Reps.rev h2).append (.cons h1 .nil)
theorem ds_revO (i : Nat) (h : PE X c (tBM0 X.K "list" rReverse (tVar i))) (hs : swapsWith c none pos.line X.env = pure false := by rfl) : DS X cls W (.Expr c pos) (sRevO i) :=
  PS.weak (ps_expr h hs) fun D σ H ⟨en, Γ, S, ρ, G, s, p⟩ => by
    unfold sRevO at p
    split at p
    · rename_i xs hx
      obtain ⟨a, vs, e, h1, r, g, n⟩ := own_at s hx
      refine ⟨_, e, .inl ⟨rfl, vs, SqL.of h1⟩, a, vs, rfl, rfl, h1, ?_⟩
      exact p _ _ _ _ (s.poke hx e ⟨_, upd_same, r.rev⟩)
    · exact p.elim
end
end DL

namespace DL
open PySem PySem.Spec PyProof.Rows L2
/-! ### dicts -/
def dPutX : List Key → List D → Key → D → List D
  | q :: ks, x :: xs, k, d => (if q = k then d else x) :: dPutX ks xs k d
  | _, xs, _, _ => xs
def dPut (ks : List Key) (xs : List D) (k : Key) (d : D) : List Key × List D := if (ks.any fun q => decide (q = k)) = true then (ks, dPutX ks xs k d) else (ks ++ [k], xs ++ [d])
section
variable {C : Cn} {ρ : List Addr} {G H : Hp}
theorem dGet_val : ∀ {ks : List Key} {xs : List D} {vs : List V}, Reps C ρ G xs vs → ks.length = xs.length → ∀ k, match dGet ks xs k with
    | some d => ∃ v, valV (ks.zip vs) k = some v ∧ Rep C ρ G d v
    | none => valV (ks.zip vs) k = none
  | [], [], vs, r, _, k => by
    have e : dGet [] ([] : List D) k = none := by unfold dGet; rfl
    rw [e]; rfl
  | q :: ks, x :: xs, vs, r, hl, k => by
    obtain ⟨v, us, rfl, h1, h2⟩ := r.inv
    rw [dGet]
    by_cases e : q = k
    · rw [if_pos e]
      exact ⟨v, valV_pos (p := (q, v)) e, h1⟩
    · rw [if_neg e]
      have ih := dGet_val (ks := ks) h2 (by simpa using hl) k
      rw [List.zip_cons_cons, valV_neg (p := (q, v)) e]
      exact ih
theorem rt_dct {ks : List Key} {xs : List D} {v : V} : RT C ρ G H (.dct ks xs) v ↔ ∃ a vs, v = V.ref a ∧ Rd H a (.dK (ks.zip vs)) ∧ ks.length = xs.length ∧ Reps C ρ G xs vs := Iff.rfl
end
section
variable {X : Cx} {cls : Nat → Addr} {W : WX} {a b c e : Expr} {δa δb δc : De} {pos p apos cpos : Pos}
def eDct0 : De := fun _ S => .ok (.dct [] []) S
theorem df_dct0 : DF X cls W (.Dict [] [] pos) eDct0 := PE.weak pe_dnewK fun σ H Q ⟨Γ, S, ρ, G, m, q⟩ => fun p hp => by
  obtain ⟨m', n', np, gp⟩ := m.new (o := .dK []) hp
  exact q (.ref p) ρ G _ m' n' ⟨p, rfl, np, hp, gp, [], upd_same, rfl, Reps.nil⟩
def keyV (d : D) (k : Key) : Prop := match d, k with
  | .int i, .inl j => i = j
  | .str x, .inr y => x = y
  | _, _ => False
theorem keyD_v {C : Cn} {ρ : List Addr} {G : Hp} {d : D} {k : Key} {v : V} (h : keyD d = some k) (r : Rep C ρ G d v) : v = kV k := by
  cases d <;> try cases h
  · rw [rep_int] at r; subst r; rfl
  · rw [rep_str] at r; subst r; rfl
theorem dget_rt {C : Cn} {ρ : List Addr} {G H : Hp} {ks : List Key} {xs : List D} {a : Addr} {vs : List V} (h1 : Rd H a (.dK (ks.zip vs))) (hl : ks.length = xs.length) (r : Reps C ρ G xs vs) (q : Key) : ∃ o, DGet H a (kV q) o ∧ match dGet ks xs q with
    | some d => ∃ v, o = some v ∧ Rep C ρ G d v
    | none => o = none := by
  refine ⟨_, .inl ⟨_, q, h1, rfl, rfl⟩, ?_⟩
  have k := dGet_val r hl q
  cases z : dGet ks xs q with
  | some d => rw [z] at k; exact k
  | none => rw [z] at k; exact k
/-- d.get(k, x) -/
def dGet2 (d k x : D) : Option D := match d, keyD k with
  | .dct ks xs, some q => some ((dGet ks xs q).getD x)
  | _, _ => none
def isDct : D → Bool | .dct _ _ => true | _ => false
def eGet2 (a b c : De) : De := fun Γ S => (a Γ S).bind fun x S1 => if isDct (deref S1 x) = true then (b Γ S1).bind fun y S2 => (c Γ S2).bind fun z S3 => ofO (dGet2 (deref S3 x) y z) S3 else .stuck
theorem isDct_rt {C : Cn} {ρ : List Addr} {G H : Hp} {d : D} {v : V} (h : isDct d = true) (r : RT C ρ G H d v) : ∃ a, v = V.ref a ∧ IsD H a := by
  cases d <;> try cases h
  obtain ⟨a, vs, rfl, h1, _, _⟩ := r
  exact ⟨a, rfl, .inl ⟨_, h1⟩⟩
theorem de_dget2 (hu : X.A.units + 1 < cLine) (ha : DO X cls W a δa) (hb : DE X cls W b δb) (hc : DE X cls W c δc) (m : M2 X a "get" apos b c cpos) : DE X cls W (.Call (.Attribute a "get" apos) [b, c] [] cpos) (eGet2 δa δb δc) :=
  PE.weak (pe_dget2 hu ha hb hc m) fun σ H Q ⟨Γ, S, ρ, G, m, p⟩ => by
    refine ⟨Γ, S, ρ, G, m, (Post.seq back_RS p).mono fun x H1 ⟨dx, S1, ρ1, G1, m1, n1, r1, p1⟩ => ?_⟩
    split at p1
    · rename_i hd
      obtain ⟨ad, rfl, isd⟩ := isDct_rt hd (m1.read r1)
      refine ⟨ad, rfl, isd, Γ, S1, ρ1, G1, m1, (Post.seq back_RS p1).mono fun y H2 ⟨dy, S2, ρ2, G2, m2, n2, r2, p2⟩ => ⟨Γ, S2, ρ2, G2, m2, (Post.seq back_RS p2).mono fun z H3 ⟨dz, S3, ρ3, G3, m3, n3, r3, p3⟩ => ?_⟩⟩
      obtain ⟨d, hd3, p4⟩ := ofO_post p3
      have rt3 := m3.read (RO.step (H1 := H3) (n2.trans n3) r1)
      unfold dGet2 at hd3
      split at hd3
      · rename_i ks xs q e1 e2
        rw [e1] at rt3
        obtain ⟨a3, vs, e3, h3, hl, rr⟩ := rt3
        cases e3
        obtain ⟨o, g, k⟩ := dget_rt h3 hl rr q
        have ey := keyD_v e2 (r2.mono n3.ext n3.pre)
        subst ey
        refine ⟨o, g, ?_⟩
        cases z2 : dGet ks xs q with
        | some d2 =>
          rw [z2] at k hd3
          obtain ⟨v, rfl, rv⟩ := k
          cases hd3
          exact p4.at m3 rv
        | none =>
          rw [z2] at k hd3
          subst k
          cases hd3
          exact p4.at m3 r3
      · cases hd3
    · exact p1.elim
end
/-! ### found[k] = e, found a dict of the slot's own -/
section
variable {C : Cn} {ρ : List Addr} {G : Hp}
theorem zip_any : ∀ {ks : List Key} {vs : List V}, ks.length = vs.length → ∀ k, ((ks.zip vs).any fun kv => decide (kv.1 = k)) = ks.any fun q => decide (q = k)
  | [], _, _, _ => rfl
  | q :: ks, v :: vs, h, k => by
    rw [List.zip_cons_cons, List.any_cons, List.any_cons, zip_any (by simpa using h)]
theorem put_zip {d : D} {v : V} (rd : Rep C ρ G d v) {ks : List Key} {xs : List D} {vs : List V} (r : Reps C ρ G xs vs) (hl : ks.length = xs.length) (k : Key) :
    ∃ us, putK (ks.zip vs) k v = (dPut ks xs k d).1.zip us ∧ (dPut ks xs k d).1.length = (dPut ks xs k d).2.length ∧ Reps C ρ G (dPut ks xs k d).2 us := by
  have hv : ks.length = vs.length := by rw [hl, r.length]
  unfold putK dPut
  rw [zip_any hv]
  by_cases e : (ks.any fun q => decide (q = k)) = true
  · rw [if_pos e, if_pos e]
    have key : ∀ {ks : List Key} {xs : List D} {vs : List V}, Reps C ρ G xs vs → ks.length = xs.length → ∃ us, ((ks.zip vs).map fun kv => if kv.1 = k then (kv.1, v) else kv) = ks.zip us ∧ ks.length = (dPutX ks xs k d).length ∧ Reps C ρ G (dPutX ks xs k d) us := by
      intro ks
      induction ks with
      | nil =>
        intro xs vs r hl
        cases xs with
        | nil => exact ⟨[], rfl, rfl, Reps.nil⟩
        | cons _ _ => cases hl
      | cons q ks ih =>
        intro xs vs r hl
        cases xs with
        | nil => cases hl
        | cons x xs =>
          obtain ⟨w, us, rfl, h1, h2⟩ := r.inv
          obtain ⟨us2, e1, e2, e3⟩ := ih h2 (by simpa using hl)
          rw [dPutX]
          by_cases hq : q = k
          · exact ⟨v :: us2, by simp [hq, e1], by simp [e2], by rw [if_pos hq]; exact .cons rd e3⟩
          · exact ⟨w :: us2, by simp [hq, e1], by simp [e2], by rw [if_neg hq]; exact .cons h1 e3⟩
    exact key r hl
  · rw [if_neg e, if_neg e]
    refine ⟨vs ++ [v], ?_, by simp [hl], r.append (.cons rd .nil)⟩
    rw [List.zip_append hv]; rfl
end
section
variable {X : Cx} {cls : Nat → Addr} {W : WX} {a e : Expr} {ε1 ε2 : De} {pos pos' : Pos}
def sPutO (i : Nat) (k e : De) : Ds := fun Γ S => after (e Γ S) Γ fun d S1 => match Γ[i]? with
  | some (.own (.dct _ _)) => after (k Γ S1) Γ fun x S2 => match Γ[i]?, keyD x with
    | some (.own (.dct ks xs)), some q => if xs.length < sizeLine then .next (Γ.set i (.own (.dct (dPut ks xs q d).1 (dPut ks xs q d).2))) S2 else .stuck
    | _, _ => .stuck
  | _ => .stuck
theorem own_dct {C : Cn} {en : Ent} {Γ : List Sl} {S : List D} {ρ : List Addr} {G H : Hp} {σ : L2.St} (s : SI C en Γ S ρ G H σ) {i : Nat} {ks : List Key} {xs : List D} (h : Γ[i]? = some (.own (.dct ks xs))) : ∃ a vs, σ[i]? = some (some (V.ref a)) ∧ H a = some (.dK (ks.zip vs)) ∧ ks.length = xs.length ∧ Reps C ρ G xs vs ∧ G a = none ∧ a ∉ ρ := by
  obtain ⟨a, e, ⟨vs, h1, l, r⟩, g, n⟩ := s.mem.own i _ h
  exact ⟨a, vs, e, h1, l, r, g, n⟩
theorem ds_putO (i : Nat) (hu : X.A.units + 1 < cLine) (ho : PE X a (tVar i)) (hk : DE X cls W e ε1) {val : Expr} (hv : DE X cls W val ε2) (hs : swapsWith val (some (.Subscript a e pos')) pos.line X.env = pure false := by rfl) :
    DS X cls W (.Assign [.Subscript a e pos'] val pos) (sPutO i ε1 ε2) := PS.weak (ps_dput hu ho hk hv hs) fun D σ H ⟨en, Γ, S, ρ, G, s, p⟩ => ⟨Γ, S, ρ, G, s.mem, post_after s p fun d S1 ρ1 G1 H1 v m1 n1 s1 r1 p1 => by
  split at p1
  · rename_i ks0 xs0 hx
    obtain ⟨a, vs, e, h1, _, r, g, n⟩ := own_dct s1 hx
    refine ⟨_, e, Γ, S1, ρ1, G1, s1.mem, post_after s1 p1 fun d2 S2 ρ2 G2 H2 v2 m2 n2 s2 r2 p2 => ?_⟩
    split at p2
    · rename_i ks xs q hx2 hq
      obtain ⟨a', vs', e', h1', hl', r', g', n'⟩ := own_dct s2 hx2
      rw [e] at e'; cases e'
      split at p2
      · rename_i hz
        have ek := keyD_v hq r2
        subst ek
        obtain ⟨us, e1, e2, e3⟩ := put_zip (r1.mono n2.ext n2.pre) r' hl' q
        refine ⟨a, _, rfl, DPut.k h1' ?_, ?_⟩
        · rw [List.length_zip, hl', r'.length, Nat.min_self, ← r'.length]; exact hz
        · exact p2 _ _ _ _ (s2.poke hx2 e ⟨us, by rw [upd_same, e1], e2, e3⟩)
      · exact p2.elim
    · exact p2.elim
  · exact p1.elim⟩
end
/-! ### a[b], a a dict or not -/
section
variable {X : Cx} {cls : Nat → Addr} {W : WX} {a b : Expr} {δa δb : De} {pos : Pos}
theorem PE.or {e : Expr} {t t' : TE} (h : PE X e t) (h' : PE X e t') : PE X e (fun σ H Q => t σ H Q ∨ t' σ H Q) := ⟨fun pins s σ H Q I k => by
  rcases k with k | k
  · exact h.run pins s σ H Q I k
  · exact h'.run pins s σ H Q I k⟩
def dKey (d k : D) : Option D := match d, keyD k with
  | .dct ks xs, some q => dGet ks xs q
  | _, _ => none
def dIdxA (d k : D) : Option D := if isDct d = true then dKey d k else dIdx d k
theorem ok_key {C : Cn} : R2Ok C (RS C) (fun x y H Q => ∃ a v, x = .ref a ∧ DGet H a y (some v) ∧ Q v H) dKey := fun S ρ G H x y d dx dy Q m rx ry e k => by
  unfold dKey at e
  split at e
  · rename_i ks xs q hq
    obtain ⟨a, vs, rfl, h1, hl, r⟩ := rx
    obtain ⟨o, g, w⟩ := dget_rt h1 hl r q
    rw [e] at w
    obtain ⟨v, rfl, rv⟩ := w
    have ey : y = kV q := by
      cases dy <;> try cases hq
      · rw [rt_int] at ry; subst ry; rfl
      · rw [rt_str] at ry; subst ry; rfl
    subst ey
    exact ⟨a, v, rfl, g, k v _ _ _ m .refl rv⟩
  · cases e
theorem eOp_cases (Γ : List Sl) (S : List D) : eOp dIdxA δa δb Γ S = eOp dKey δa δb Γ S ∨ eOp dIdxA δa δb Γ S = eOp dIdx δa δb Γ S := by
  unfold eOp
  cases δa Γ S with
  | exc _ _ => exact .inl rfl
  | stuck => exact .inl rfl
  | ok x S1 =>
    simp only [Res.bind_ok]
    cases δb Γ S1 with
    | exc _ _ => exact .inl rfl
    | stuck => exact .inl rfl
    | ok y S2 =>
      simp only [Res.bind_ok]
      unfold dIdxA
      by_cases h : isDct (deref S2 x) = true
      · rw [if_pos h]; exact .inl rfl
      · rw [if_neg h]; exact .inr rfl
theorem de_subA (hu : X.A.units + 1 < cLine) (ha : DO X cls W a δa) (hb : DO X cls W b δb) (h0 : DE X cls W (.Subscript a b pos) (eOp dIdx δa δb)) (hs : NoSl b) : DE X cls W (.Subscript a b pos) (eOp dIdxA δa δb) :=
  PE.weak (PE.or (pe_dget hu ha hb hs) h0) fun σ H Q ⟨Γ, S, ρ, G, m, p⟩ => by
    rcases eOp_cases (δa := δa) (δb := δb) Γ S with e | e
    · rw [e] at p
      exact .inl (x_op (cls := cls) (W := W) (δa := δa) (δb := δb) back_RS ok_key ⟨Γ, S, ρ, G, m, p⟩)
    · rw [e] at p
      exact .inr ⟨Γ, S, ρ, G, m, p⟩
end
end DL

namespace DL
open PySem PySem.Spec PyProof.Rows L2
/-! ### sorted texts -/
def leS (a b : Str) : Bool := !ltCps b.cps.toList a.cps.toList
theorem leS_iff (a b : Str) : leS a b = true ↔ a.cps.toList ≤ b.cps.toList := by
  unfold leS
  rw [ltCps_eq, Bool.not_eq_true', decide_eq_false_iff_not, List.not_lt]
theorem leS_trans (a b c : Str) (h1 : leS a b = true) (h2 : leS b c = true) : leS a c = true := by
  rw [leS_iff] at *
  exact List.le_trans h1 h2
theorem leS_total (a b : Str) : (leS a b || leS b a) = true := by
  rw [Bool.or_eq_true, leS_iff, leS_iff]
  exact List.le_total _ _
theorem leS_anti (a b : Str) (h1 : leS a b = true) (h2 : leS b a = true) : a = b := by
  rw [leS_iff] at *
  have := List.le_antisymm h1 h2
  obtain ⟨⟨x⟩⟩ := a
  obtain ⟨⟨y⟩⟩ := b
  cases this; rfl
def srtS (l : List Str) : List Str := l.mergeSort leS
theorem rising_pair : ∀ (r : List Str) (x : Str), risingS x r = true → (x :: r).Pairwise fun a b => leS a b = true
  | [], x, _ => List.pairwise_singleton _ _
  | y :: r, x, h => by
    unfold risingS at h
    rw [Bool.and_eq_true] at h
    have hxy : leS x y = true := h.1
    have ih := rising_pair r y h.2
    refine List.Pairwise.cons (fun z hz => ?_) ih
    rcases List.mem_cons.mp hz with rfl | hz
    · exact hxy
    · exact leS_trans x y z hxy ((List.pairwise_cons.mp ih).1 z hz)
theorem sorted_pair (l : List Str) (h : sortedS l = true) : l.Pairwise fun a b => leS a b = true := by
  cases l with
  | nil => exact List.Pairwise.nil
  | cons x r => exact rising_pair r x h
theorem srt_uniq {ys xs : List Str} (hp : ys.Perm xs) (hs : sortedS ys = true) : ys = srtS xs :=
  List.Perm.eq_of_pairwise (le := fun a b => leS a b = true) (fun a b _ _ h1 h2 => leS_anti a b h1 h2) (sorted_pair ys hs) (List.pairwise_mergeSort leS_trans leS_total xs) (hp.trans (List.mergeSort_perm xs leS).symm)
def asStrs : List D → Option (List Str)
  | [] => some []
  | .str i :: r => (asStrs r).map (i :: ·)
  | _ :: _ => none
def keyStrs : List Key → Option (List Str)
  | [] => some []
  | .inr i :: r => (keyStrs r).map (i :: ·)
  | _ :: _ => none
theorem reps_strs2 {C : Cn} {ρ : List Addr} {G : Hp} : ∀ {ds : List D} {vs : List V} {l : List Str}, Reps C ρ G ds vs → asStrs ds = some l → vs = l.map V.str
  | [], _, _, h, e => by rw [asStrs] at e; cases e; exact h.inv0
  | x :: r, _, l, h, e => by
    obtain ⟨v, vs, rfl, h1, h2⟩ := h.inv
    cases x <;> rw [asStrs] at e <;> try cases e
    rename_i i
    cases q : asStrs r with
    | none => rw [q] at e; cases e
    | some l' =>
      rw [q] at e; cases e
      rw [reps_strs2 h2 q, rep_str.mp h1]; rfl
    all_goals exact nofun
theorem keyStrs_map : ∀ {ks : List Key} {l : List Str}, keyStrs ks = some l → ks = l.map Sum.inr
  | [], _, e => by rw [keyStrs] at e; cases e; rfl
  | x :: r, l, e => by
    cases x <;> rw [keyStrs] at e <;> try cases e
    · rename_i i
      cases q : keyStrs r with
      | none => rw [q] at e; cases e
      | some l' =>
        rw [q] at e; cases e
        rw [keyStrs_map q]; rfl
    all_goals exact nofun
theorem reps_mk {C : Cn} {ρ : List Addr} {G : Hp} : ∀ (l : List Str), Reps C ρ G (l.map D.str) (l.map V.str)
  | [] => Reps.nil
  | x :: r => .cons (rep_str.mpr rfl) (reps_mk r)
def dSorted : D → Option D
  | .lst xs => (asStrs xs).bind fun l => if l.length < 64 then some (.lst ((srtS l).map D.str)) else none
  | .dct ks _ => (keyStrs ks).bind fun l => if l.length < 64 then some (.lst ((srtS l).map D.str)) else none
  | _ => none
section
variable {C : Cn} {X : Cx} {cls : Nat → Addr} {W : WX} {a : Expr} {δa : De} {pos p : Pos}
def rSrt (K : PySem.W.Frag) : List V → Hp → VK → Prop := fun xs H Q => rSortedS K xs H Q ∨ ∃ (a : Addr) (kvs : List (Key × V)) (ks : List Str), xs = [.ref a] ∧ Rd H a (.dK kvs) ∧ kvs.map (·.1) = ks.map Sum.inr ∧ ks.length < 64 ∧
    ∀ ys p, ys.Perm ks → sortedS ys = true → H p = none → Q (.ref p) (upd H p (.lst (ys.map V.str)))
theorem rc_sorted : RC1 C (RF C) (rSrt C.K) dSorted := fun S ρ G H x d dx Q m rx e q => by
  cases dx <;> try cases e
  · rename_i xs
    obtain ⟨a, vs, rfl, h1, r1⟩ := rx
    simp only [dSorted] at e
    cases k : asStrs xs with
    | none => rw [k] at e; cases e
    | some l =>
      rw [k, Option.bind_some] at e
      split at e
      · rename_i hl
        cases e
        have z := reps_strs2 r1 k
        subst z
        refine .inl ⟨a, l, rfl, SqL.of h1, hl, fun ys p hp hs hn => ?_⟩
        obtain rfl := srt_uniq hp hs
        obtain ⟨m2, n2, r⟩ := x_new m (reps_mk (C := C) (ρ := ρ) (G := G) (srtS l)) hn
        exact q _ _ _ _ m2 n2 r
      · cases e
  · rename_i ks xs
    obtain ⟨a, vs, rfl, h1, hl0, r1⟩ := rx
    simp only [dSorted] at e
    cases k : keyStrs ks with
    | none => rw [k] at e; cases e
    | some l =>
      rw [k, Option.bind_some] at e
      split at e
      · rename_i hl
        cases e
        refine .inr ⟨a, _, l, rfl, h1, ?_, hl, fun ys p hp hs hn => ?_⟩
        · rw [List.map_fst_zip (by rw [hl0, r1.length]; exact Nat.le_refl _)]; exact keyStrs_map k
        · obtain rfl := srt_uniq hp hs
          obtain ⟨m2, n2, r⟩ := x_new m (reps_mk (C := C) (ρ := ρ) (G := G) (srtS l)) hn
          exact q _ _ _ _ m2 n2 r
      · cases e
theorem call_srt (hc : X.calm = true) : CallR X (.builtin "sorted") (rSrt X.K) := fun pins s σ H xs us Q I r h => by
  rcases h with h | h
  · exact cr_sortedS pins s σ H xs us Q I r h
  · exact call_sortedD hc pins s σ H xs us Q I r h
theorem df_sorted (hg : Gl X "sorted") (hm : X.mg "sorted" = none) (hc : X.calm = true) (ha : DO X cls W a δa) (he : starEach [a] X.env = (false, eval a X.env) :: starEach [] X.env := by rfl) (hpl : (backTo pos (starEach [] X.env)).any (·.1) = false := by rfl) : DF X cls W (.Call (.Name "sorted" p) [a] [] pos) (eUn dSorted δa) :=
  x_c1 back_RF (pe_callB (call_srt hc) hg hm (by decide +kernel) (da1 ha he) (by decide) (by decide) he hpl) rc_sorted
end
end DL

namespace DL
open PySem PySem.Spec PyProof.Rows L2 LiI
/-! ### list(d.items()) -/
section
variable {C : Cn} {S : List D} {ρ : List Addr} {G G' H H' : Hp}
theorem mem_more (m : MemS C S ρ G H) (hG : Sub G G') (hH : ∀ b o, H b = some o → H' b = some o) (s : SubH C G' H') (nw : ∀ a o, G' a = some o → G a = some o ∨ H a = none) : MemS C S ρ G' H' ∧ Nx ρ G H ρ G' H' := by
  have live : ∀ a, H' a = none → H a = none := fun a h => by
    cases q : H a with
    | none => rfl
    | some o => rw [hH a o q] at h; cases h
  refine ⟨⟨s, fun i d h => by simp at h, fun i d h => by simp at h, fun i j d d' a h => by simp at h, fun i d h => ?_, fun a ha => ?_, m.len, m.nd, rfl, fun i x h => by simp at h⟩, ⟨List.prefix_refl _, hG, nw, fun a o _ h _ => hH a o h, live, fun a h => .inl h⟩⟩
  · obtain ⟨a, e, r⟩ := m.sto i d h
    exact ⟨a, e, r.mono hG (List.prefix_refl _) fun o q => hH a o q⟩
  · cases q : G' a with
    | none => rfl
    | some o =>
      rcases nw a o q with z | z
      · rw [m.stG a ha] at z; cases z
      · obtain ⟨i, hi⟩ := List.mem_iff_getElem?.mp ha
        have hl : i < S.length := by rw [← m.len]; exact (List.getElem?_eq_some_iff.mp hi).1
        obtain ⟨b, e, r⟩ := m.sto i S[i] (List.getElem?_eq_getElem hl)
        rw [hi] at e; cases e
        obtain ⟨o2, h2⟩ := r.some
        rw [h2] at z; cases z
def keyK : Key → D
  | .inl i => .int i
  | .inr x => .str x
theorem keyK_rep (k : Key) : Rep C ρ G (keyK k) (kV k) := by
  cases k with
  | inl i => exact rep_int.mpr rfl
  | inr x => exact rep_str.mpr rfl
def itemsD : List Key → List D → List D
  | k :: ks, x :: xs => .tup [keyK k, x] :: itemsD ks xs
  | _, _ => []
end
end DL

namespace DL
open PySem PySem.W PySem.Calls PyProof.Rows PySem.HandSPX L2
/-! ### own error classes whose __init__ says super().__init__(f"..") and self.x = x -/
def clsSt (st : Stmt) (k : Nat) : Stmt := match st with
  | .ClassDef _ _ _ body _ _ _ _ _ _ _ => body.getD k (.Pass ⟨0, 0, 0, 0⟩)
  | _ => .Pass ⟨0, 0, 0, 0⟩
/-- the value's text in an f-string -/
def ShowV (prog : Program) (w : World) (A : Around) (h0 : Heap) (v : Value) : Prop := ∀ (E : Value → Shared → Prop) (s : Shared) (Q : Value → Shared → Prop), (∀ b o, h0.get? b = some o → s.heap.get? b = some o) →
  (∀ h' u tk x, (∀ b o, s.heap.get? b = some o → h'.get? b = some o) → x.length ≤ 16000000 → Q (.str x u) { s with heap := h', toks := tk }) → wpAny (model prog w) A (formatField v Str.empty) Q E s
theorem showV_str {prog : Program} {w : World} {A : Around} {h0 : Heap} {x : Str} {t : Tok} (h : x.length ≤ 16000000) : ShowV prog w A h0 (.str x t) := fun E s Q k q =>
  wpAny_formatField_str (q s.heap t s.toks x (fun _ _ e => e) h) (q s.heap s.toks (s.toks + 1) x (fun _ _ e => e) h) (Nat.le_trans h (by decide))
theorem showV_int {prog : Program} {w : World} {A : Around} {h0 : Heap} {i : Int} {t : Tok} (h : i.natAbs.log2 < 1920) : ShowV prog w A h0 (.int i t) := fun E s Q k q =>
  wpAny_formatField_int h (q s.heap _ _ (toString i) (fun _ _ e => e) (by
    have e := int_text_length_le (k := 1920) (by decide) h
    show (Str.ofString (toString i)).length ≤ _
    rw [PySem.ofString_length]; omega))
theorem showV_data {prog : Program} {w : World} {A : Around} {h0 : Heap} {a : Addr} {d : PyData} {as : List Addr} (r : Reads h0 (.ref a) d as) (hs : d.showable = true) (hd : d.hasDict = false) (hg : A.guards = some []) (hu : A.units + (d.depth + 2) < cLine) (hl : d.shown.length ≤ 16000000) : ShowV prog w A h0 (.ref a) := fun E s Q k q =>
  formatField_of_reads r hs (fun z => by rw [hd] at z; cases z) hg hu k (fun h' u tk hk => q h' u tk _ hk hl) (Nat.le_trans hl (by decide))
inductive FParts (par : Str) : List Expr → Nat → Prop
  | nil : FParts par [] 0
  | txt {x : Str} {k : Nat} {pos : Pos} {es : List Expr} {n : Nat} (h : x.length ≤ 100) (r : FParts par es n) : FParts par (.Constant (.str x) k pos :: es) (n + 100)
  | val {q pos : Pos} {es : List Expr} {n : Nat} (r : FParts par es n) : FParts par (.FormattedValue (.Name par q) (-1) none pos :: es) (n + 16000000)
/-- the text of such an __init__ -/
structure ErrSt (st : Stmt) (par fld : Str) : Prop where
  body : ∃ (p0 p1 ap : Pos) (e1 e2 : Expr) (er : List Expr) (jp cp sp q1 q2 q3 q4 : Pos) (n : Nat), FParts par (e1 :: e2 :: er) n ∧ n ≤ 16000300 ∧ (ap.endLine == cp.line) = true ∧
    defBody st = [.Expr (.Call (.Attribute (.Call (.Name "super" p0) [] [] p1) "__init__" ap) [.JoinedStr (e1 :: e2 :: er) jp] [] cp) sp, .Assign [.Attribute (.Name "self" q1) fld q2] (.Name par q3) q4]
  scS : (defScope st).names.lookup ("self" : Str) = some .local
  scP : (defScope st).names.lookup par = some .local
  scX : (defScope st).names.lookup ("super" : Str) = some .globalImplicit
  scC : (defScope st).names.lookup ("__class__" : Str) = some .free
  ncell : ∀ x ∈ (defScope st).names, x.2 ≠ .cell
  co : (defScope st).isCoroutine = false
  gen : (defScope st).isGenerator = false
  kind : (defScope st).kind = .function
  hd : ∃ ar, ((defArgs st).posonlyargs ++ (defArgs st).args).head? = some ar ∧ ar.arg = "self"
  pd : (par == ("__debug__" : Str)) = false
  ps : par ≠ "self"
/-- what the written part says of the class at C, whose __init__ stands in the class at D -/
structure ErrTxt (prog : Program) (K : Frag) (qual : Str) (st : Stmt) (C D fI cc cda : Addr) (par fld : Str) : Prop where
  tx : ErrSt st par fld
  cls : ∃ nm q N bs bm sn sub ab col dd k0 k1 k2 k3 k5, K.lookup C = some (excClassObj nm q C N bs bm true sn sub ab col dd k0 k1 k2 k3 k5 "ValueError.__new__") ∧ refsVE bm = true
  sa : findIn K (.ref C) "__setattr__" = some (some (.builtin "object.__setattr__"))
  noN : findIn K (.ref C) fld = some none
  iC : findIn K (.ref C) "__init__" = some (some (.ref fI))
  tC : typeIn K (.ref fI) = some (.type "function")
  kC : keepIn K (.ref C) = true
  exC : subIn K (.ref C) (.type "BaseException") = some true
  veC : subIn K (.ref C) (.type "ValueError") = some true
  tyC : typeIn K (.ref C) = some (.type "type")
  sup : ks_superIn K C D "__init__" = some (some (.builtin "ValueError.__init__"))
  mCD : mroIn K C (.ref D) = some true
  clD : ∃ cd, clsIn K D = some cd
  cell : ∃ cl cld csl, K.lookup cc = some ⟨cl, cld, .cell (some (.ref D)), csl⟩
  code : ∃ ccl cdd vs ccs file tf, K.lookup cda = some ⟨ccl, cdd, .fields vs, ccs⟩ ∧ vs[2]? = some (.str file tf) ∧ ((prog.main.file : Str) == file) = true
  thp : nsIn K cStatics "thirdparty.any" = some none
  top : (prog.main.scope.names.lookup ("super" : Str)).isSome = false
  fn : ∃ (oc : Value) (od : Option Addr) (kV doc pm : Value) (an : Option Addr) (ct : Value) (osl : Array (Option Value)),
    K.lookup fI = some ⟨oc, od, .func (ksFn "__init__" qual (defArgs st) (defBody st) (defScope st) .none kV doc pm an (.ref cda) ct cc), osl⟩ ∧ codeIn K (.ref cda) qual = true ∧
    ∀ (s : Shared) (u v : Value), BindsTo s (ksFn "__init__" qual (defArgs st) (defBody st) (defScope st) .none kV doc pm an (.ref cda) ct cc) ⟨[u, v], []⟩ [("self", u), (par, v)]
structure InitEnd (fld : Str) (h h' : Heap) (x C dx t1 : Addr) (v : Value) : Prop where
  keep : ∀ b o, b ≠ x → h.get? b = some o → h'.get? b = some o
  obj : h'.get? x = some { cls := .ref C, dict := some dx, data := .fields #[.ref t1, .none, .none, .none, .bool false, .none] }
  dbig : h.objs.size ≤ dx
  dne : dx ≠ x
  ns : h'.Ns1 dx (fun y => if y = fld then some v else none)
section
variable {prog : Program} {w : World} {A : Around} {E : Value → Shared → Prop} {R : Result → Shared → Prop} {s : Shared} {K : Frag} {mg mb : Str → Option Value}
theorem ldK {M : Model} {qual : Str} {scope : Scope} {L a cc : Addr} {cd : Value} {m : Str → Option Value} {x : Str} {pos : Pos} {v : Value} {Q : Value → Shared → Prop} (hn : s.heap.Ns L m) (hv : m x = some v) (h : Q v s)
    (hk : scope.kind = .function) (hl : scope.names.lookup x = some .local) (hd : (x == ("__debug__" : Str)) = false) :
    wpAny M A (eval (.Name x pos) (ksEnv qual scope L a cd cc)) Q E s := wpAny_Name (wpAny_loadName_local hk hl hn hv h) hd
theorem fparts_join {qual : Str} {scope : Scope} {L a cc : Addr} {cd : Value} {par : Str} {v : Value} {h0 : Heap} {m : Str → Option Value} (hk : scope.kind = .function) (hl : scope.names.lookup par = some .local) (hd : (par == ("__debug__" : Str)) = false)
    (sv : ShowV prog w A h0 v) (hm : m par = some v) : ∀ {es : List Expr} {n : Nat}, FParts par es n → ∀ (acc : Str) (s : Shared) (R : Str → Shared → Prop), s.heap.Ns L m → (∀ b o, h0.get? b = some o → s.heap.get? b = some o) → acc.length + n ≤ 16000300 →
    (∀ out h' tk, (∀ b o, s.heap.get? b = some o → h'.get? b = some o) → out.length ≤ 16000300 → R out { s with heap := h', toks := tk }) → Joins (model prog w) A E (evalEach es (ksEnv qual scope L a cd cc)) acc R s := by
  intro es n f
  induction f with
  | nil =>
    intro acc s R hn k hl2 q
    have e0 : evalEach [] (ksEnv qual scope L a cd cc) = [] := by first | rfl | simp [evalEach]
    rw [e0]
    exact q acc s.heap s.toks (fun _ _ e => e) (by omega)
  | @txt x kk pos es n hx r ih =>
    intro acc s R hn k hl2 q
    have e0 : evalEach (.Constant (.str x) kk pos :: es) (ksEnv qual scope L a cd cc) = eval (.Constant (.str x) kk pos) (ksEnv qual scope L a cd cc) :: evalEach es (ksEnv qual scope L a cd cc) := by first | rfl | simp [evalEach]
    rw [e0]
    have al : (acc ++ x).length = acc.length + x.length := strLen_append _ _
    refine wpAny_Constant_str ⟨x, s.toks, rfl, by rw [al]; exact Nat.le_trans (show acc.length + x.length ≤ 16000300 by omega) (by decide), ih (acc ++ x) { s with toks := s.toks + 1 } R hn k (by rw [al]; omega) fun out h' tk hk ho => q out h' tk hk ho⟩
  | @val qp pos es n r ih =>
    intro acc s R hn k hl2 q
    have e0 : evalEach (.FormattedValue (.Name par qp) (-1) none pos :: es) (ksEnv qual scope L a cd cc) = eval (.FormattedValue (.Name par qp) (-1) none pos) (ksEnv qual scope L a cd cc) :: evalEach es (ksEnv qual scope L a cd cc) := by first | rfl | simp [evalEach]
    rw [e0]
    refine wpAny_FormattedValue_plain (ldK hn hm ?_ hk hl hd)
    refine sv E s _ k fun h' u tk x hk hx => ?_
    have al : (acc ++ x).length = acc.length + x.length := strLen_append _ _
    refine ⟨x, u, rfl, by rw [al]; exact Nat.le_trans (show acc.length + x.length ≤ 16000300 by omega) (by decide), ih (acc ++ x) { s with heap := h', toks := tk } R (hn.keeps hk) (fun b o e => hk b o (k b o e)) (by rw [al]; omega) fun out h2 tk2 hk2 ho => q out h2 tk2 (fun b o e => hk2 b o (hk b o e)) ho⟩
theorem super_at {c : Code} {o : Expr} {name : Str} {apos pos : Pos} {args : List Expr} {env : Env} {Q : Value → Shared → Prop} (hline : (apos.endLine == pos.line) = true)
    (hform : methodCallForm (args.length + ([] : List Keyword).length) (backTo pos (starEach args env)) (backToKw pos (keywordEach [] env)) = true)
    (h : PySem.wpAt (model prog w) A c (attributeBase o name env (eval o env)) (fun ov s₁ => ∀ pl, wpAny (model prog w) A (getMethod ov name pl) (fun fx s₂ => wpAny (model prog w) A (callWith pos fx.1 fx.2 (backTo pos (starEach args env)) []) Q E s₂) E s₁) E s) :
    PySem.wpAt (model prog w) A c (eval (.Call (.Attribute o name apos) args [] pos) env) Q E s := by
  rw [arm_eval_Call]
  refine PySem.wpAt_bind (ks_wpAt_mono h (fun ov s₁ h₁ => wpAt_of_wpAny (wpAny_bind (wpAny_standAt ?_))) fun _ _ x => x)
  have hpos : methodCallPos true o env apos pos = pure pos := by unfold methodCallPos; simp [hline]
  unfold methodCall
  rw [hform]
  refine wpAny_bind (wpAny_holding (wpAny_mono (h₁ _) (fun fx s₂ h₂ => ?_) fun _ _ x => x))
  exact wpAny_bind (wpAny_of_eq hpos h₂)
theorem err_init {C D fI cc cda : Addr} {par fld qual : Str} {st : Stmt} (T : ErrTxt prog K qual st C D fI cc cda par fld) {x t0 : Addr} {v : Value} (X : K.In s.heap) (G : s.heap.Ns mainGlobals mg) (hsup : mg "super" = none) (B : s.heap.Ns builtinsNs mb) (hb : mb "super" = some (.type "super"))
    (hlim : s.heap.NoLimit) (hx : s.heap.get? x = some (HandSPX.excO C t0)) (hnx : K.lookup x = none) (hroom : A.depth < recursionLimit) (sv : ∀ L, ShowV prog w (A.deeper (ksEnv qual (defScope st) L fI (.ref cda) cc)) s.heap v)
    (hq : ∀ h' tk dx t1, InitEnd fld s.heap h' x C dx t1 v → R (.ok (.ret .none)) { s with heap := h', toks := tk }) :
    codeAny (model prog w) A (.call (.ref fI) ⟨[.ref x, v], []⟩) R s := by
  obtain ⟨oc, od, kV, doc, pm, an, ct, osl, ho, hcd, hbd⟩ := T.fn
  obtain ⟨nm, q, N, bs, bm, sn, sub, ab, col, dd, k0, k1, k2, k3, k5, hC, hbm⟩ := T.cls
  obtain ⟨p0, p1, ap, e1, e2, er, jp, cp, sp, q1, q2, q3, q4, n, fp, hn16, hline, hbody⟩ := T.tx.body
  have hint : ∀ L : Addr, interactive (ksEnv qual (defScope st) L fI (.ref cda) cc) = false := fun L => by
    unfold interactive
    rw [show (ksEnv qual (defScope st) L fI (.ref cda) cc).scope.kind = .function from T.tx.kind]
    rfl
  obtain ⟨ar, har, hself⟩ := T.tx.hd
  obtain ⟨cdD, hD⟩ := T.clD
  obtain ⟨cl, cld, csl, hcell⟩ := T.cell
  obtain ⟨ccl, cdd, vs, ccs, file, tf, hcode, hvs, hfile⟩ := T.code
  have hcl : clsIn K C = some { name := nm, bases := bs, mro := .ref C :: bm, ns := N, qualname := q, hasDict := true, slotNames := sn, subclasses := sub, abstract := ab, collection := col, hasDel := false } := by unfold clsIn; rw [hC] <;> rfl
  refine ks_codeAny_call_defAt (fd := ksFn "__init__" qual (defArgs st) (defBody st) (defScope st) .none kV doc pm an (.ref cda) ct cc) (body := defBody st) (binds := [("self", .ref x), (par, v)]) hroom (X _ _ ho) rfl hlim (codeRec_of X hcd) rfl (hbd _ _ _) T.tx.ncell ?_ (fun h1 hn k => ?_) T.tx.co T.tx.gen T.tx.kind
  · intro y hy
    rcases List.mem_cons.mp hy with rfl | hy
    · exact T.tx.scS
    · rcases List.mem_cons.mp hy with rfl | hy
      · exact T.tx.scP
      · cases hy
  have m1 : (fun y => ([(("self" : Str), Value.ref x), (par, v)] : List (Str × Value)).reverse.lookup y) "self" = some (.ref x) := by
    have z : (("self" : Str) == par) = false := by simpa using fun e : ("self" : Str) = par => T.tx.ps e.symm
    simp [List.lookup, z]
  have m2 : (fun y => ([(("self" : Str), Value.ref x), (par, v)] : List (Str × Value)).reverse.lookup y) par = some v := by
    simp [List.lookup]
  have X1 : K.In h1 := X.keeps k
  have hx1 := k _ _ hx
  have hne : x ≠ C := fun z => by
    have hC1 := X _ _ hC
    rw [← z, hx] at hC1
    cases hC1
  rw [hbody]
  generalize hL : s.heap.objs.size = L at *
  show PySem.wpAt _ (A.deeper (ksEnv qual (defScope st) L fI (.ref cda) cc)) _ (execs _ (ksEnv qual (defScope st) L fI (.ref cda) cc)) _ _ _
  refine ks_wpAt_execs_cons (ks_wpAt_Expr_any (super_at hline (by rfl) ?_) (hint L))
  obtain ⟨hh, g, dr, tk, os⟩ := s
  dsimp only at *
  obtain ⟨oD, hD1, hD2⟩ : ∃ oD, h1.get? D = some oD ∧ oD.data = .cls cdD := by
    unfold clsIn at hD
    split at hD
    · rename_i c d cd' sl ho
      cases hD
      exact ⟨_, X1 _ _ ho, rfl⟩
    · cases hD
  refine ks_wpAt_super_base (env := ksEnv qual (defScope st) L fI (.ref cda) cc) T.tx.scX T.tx.scC (by decide) rfl (X1 _ _ ho) rfl har rfl (X1 _ _ hcode) rfl hvs hfile T.top ?_
  refine ks_loadName_global T.tx.kind T.tx.scX (loadGlobal_builtin (env := ksEnv qual (defScope st) L fI (.ref cda) cc) (G.keeps k) hsup (B.keeps k) hb ⟨rfl, ?_⟩)
  refine wpAny_loadName_free T.tx.kind T.tx.scC rfl ⟨_, X1 _ _ hcell, rfl⟩ ?_
  rw [hself]
  refine wpAny_loadName_local T.tx.kind T.tx.scS hn m1 ?_
  refine ks_wpAny_isType_cls hD1 hD2 ⟨rfl, ?_⟩
  refine ks_wpAny_call_super hD1 hD2 hx1 rfl (fun c e => by cases e) (looks_mroIn X1 T.mCD) (fun h2 e2' kk2 => ?_)
  have k2 : ∀ b o, hh.get? b = some o → h2.get? b = some o := fun b o e => kk2 b o (k b o e)
  have X2 : K.In h2 := X.keeps k2
  have I2 : InstAt h2 x (HandSPX.excO C t0) C none := ⟨k2 _ _ hx, rfl, rfl, trivial⟩
  have hI : Looks (model prog w) h2 (isInstance (.ref x) (.type "ValueError")) true := I2.type.andThen (looks_subIn X2 T.veC)
  have hm : ks_superIn K C D "__init__" = some (some (.builtin "ValueError.__init__")) := T.sup
  unfold ks_superIn at hm
  rw [hcl] at hm
  intro pl
  refine kxs_getMethod kxs_ValueError e2' (looks_opaque X2 T.thp) (l₀ := .ref C :: bm) (fun A Q E s k q => wpAny_bind ((looks_clsIn X2 hcl) A _ E s k (wpAny_pure q))) rfl X2 hm hI hne (by decide) ?_
  dsimp only
  generalize hu : h2.objs.size = u
  have ku : ∀ b o, h2.get? b = some o → (h2.push (kxs_mw "ValueError.__init__" x)).get? b = some o := fun b o e => Heap.get?_push_of_some _ e
  have hu3 : (h2.push (kxs_mw "ValueError.__init__" x)).get? u = some (kxs_mw "ValueError.__init__" x) := by rw [← hu]; exact Heap.get?_push_at rfl rfl
  generalize h2.push (kxs_mw "ValueError.__init__" x) = h3 at ku hu3
  have k3 : ∀ b o, hh.get? b = some o → h3.get? b = some o := fun b o e => ku b o (k2 b o e)
  have hn3 : h3.Ns L (fun y => ([(("self" : Str), Value.ref x), (par, v)] : List (Str × Value)).reverse.lookup y) := hn.keeps fun b o e => ku b o (kk2 b o e)
  refine kxs_callWith (i := "ValueError.__init__") (x := x) (by rfl) ?_
  refine evalArgs_plain ?_
  refine spliced_cons ?_
  refine wpAny_JoinedStr (pos := jp) (fparts_join T.tx.kind T.tx.scP T.tx.pd (sv L) m2 fp Str.empty _ _ hn3 k3 (by show 0 + n ≤ _; omega) fun out h4 tk4 hk4 hout => ⟨Nat.le_trans hout (by decide), ?_⟩)
  refine spliced_nil ⟨hk4 _ _ hu3, ?_⟩
  have k4 : ∀ b o, hh.get? b = some o → h4.get? b = some o := fun b o e => hk4 b o (k3 b o e)
  have X4 : K.In h4 := X.keeps k4
  have hC4 := X4 _ _ hC
  have hx4 := k4 _ _ hx
  have hu4 := hk4 _ _ hu3
  -- the call
  refine wpAny_call (codeAny_of_tree ?_)
  show wpAny _ (A.deeper (ksEnv qual (defScope st) L fI (.ref cda) cc)).in1 (callAny (.ref u) ⟨[] ++ [Value.str out tk4], []⟩) _ _ _
  simp only [callAny, List.nil_append]
  refine wpAny_bind (wpAny_load hu4 ?_)
  simp only [kxs_mw, show (Value.type "method-wrapper" == Value.type "method" || Value.type "method-wrapper" == Value.type "builtin_function_or_method" || Value.type "method-wrapper" == Value.type "method-wrapper") = true by decide, if_true]
  refine KFB.if_so (by decide) ?_
  refine wpAny_bind (check_bound_init F.excBase_ValueError.toExcCallFacts hC4 hx4 rfl ?_)
  refine wpAny_bind (wpAny_pure (wpAny_pure ?_))
  refine ⟨plainId_quiet F.excBase_ValueError.init.plain _, codeAny_builtin F.excBase_ValueError.initEntry ?_⟩
  refine exc_init_tree (cls := .ref C) (t0 := t0) (dv := none) (c2 := .none) (c3 := .none) (b4 := .bool false) hx4 (by show 1 ≤ sizeLine; decide) fun h5 k5' hx5 _ => ?_
  have k5 : ∀ b o, b ≠ x → hh.get? b = some o → h5.get? b = some o := fun b o hb e => k5' b o hb (k4 b o e)
  have hxL : L ≠ x := by rw [← hL]; exact Nat.ne_of_gt (Heap.lt_size hx)
  have hn5 : h5.Ns L (fun y => ([(("self" : Str), Value.ref x), (par, v)] : List (Str × Value)).reverse.lookup y) := by
    obtain ⟨o, es, ep, hoL, r⟩ := hn3
    exact ⟨o, es, ep, k5' _ _ hxL (hk4 _ _ hoL), r⟩
  have X5 : K.In h5 := fun a o e => k5' a o (fun z => by rw [z, hnx] at e; cases e) (X4 a o e)
  dsimp only
  refine ks_wpAt_execs_cons (wpAt_of_wpAny (plainObj_wpAny_Assign_Attribute ?_))
  refine ldK hn5 m2 (ldK hn5 m1 ?_ T.tx.kind T.tx.scS (by decide)) T.tx.kind T.tx.scP T.tx.pd
  refine set_plain X5 (ox := { cls := .ref C, dict := none, data := .fields #[.ref h4.objs.size, .none, .none, .none, .bool false, .none] }) (od := none) ⟨hx5, rfl, rfl, trivial⟩ T.sa ?_
  refine exc_osa X5 hx5 hcl (show refsVE (.ref C :: bm) = true from hbm) rfl T.noN (fun h6 tk6 dx k6 dn dne hx6 hn6 => ?_)
  refine wpAt_of_wpAny (wpAny_execs_nil (hq h6 tk6 dx h4.objs.size ⟨fun b o hb e => k6 b o hb (k5 b o hb e), hx6, ?_, dne, hn6⟩))
  have z : hh.objs.size < h5.objs.size := by rw [hL]; exact hn5.lt
  exact Nat.le_of_lt (Nat.lt_of_lt_of_le z dn)
end
end DL

namespace DL
open PySem PySem.W PySem.Calls PyProof.Rows PySem.HandSPX L2
theorem ShowV.mono {prog : Program} {w : World} {A : Around} {h0 h1 : Heap} {v : Value} (h : ShowV prog w A h0 v) (k : ∀ b o, h0.get? b = some o → h1.get? b = some o) : ShowV prog w A h1 v := fun E s Q k2 q => h E s Q (fun b o e => k2 b o (k b o e)) q
structure OwnMade (fld : Str) (h h' : Heap) (e C d : Addr) (v : Value) : Prop where
  keep : ∀ b o, h.get? b = some o → h'.get? b = some o
  new : h.objs.size ≤ e
  obj : ∃ oe vs, h'.get? e = some oe ∧ oe.cls = .ref C ∧ oe.dict = some d ∧ oe.data = .fields vs ∧ vs[1]? = some .none ∧ vs[2]? = some .none
  dbig : h.objs.size ≤ d
  dne : d ≠ e
  ns : h'.Ns1 d (fun y => if y = fld then some v else none)
theorem one_line (v : Value) : [v].length ≤ sizeLine := by
  rw [sizeLine_eq]; exact (by decide : 1 ≤ 16777216)
section
variable {prog : Program} {w : World} {A : Around} {E : Value → Shared → Prop} {R : Result → Shared → Prop} {s : Shared} {K : Frag} {mg mb : Str → Option Value}
theorem err_made {C D fI cc cda : Addr} {par fld qual : Str} {st : Stmt} (T : ErrTxt prog K qual st C D fI cc cda par fld) {v : Value} (X : K.In s.heap) (G : s.heap.Ns mainGlobals mg) (hsup : mg "super" = none) (B : s.heap.Ns builtinsNs mb) (hb : mb "super" = some (.type "super"))
    (hlim : s.heap.NoLimit) (hroom : A.depth + 1 < recursionLimit) (sv : ∀ L, ShowV prog w ((A.under (.builtin "type.__call__" ⟨.ref C :: [v], []⟩)).deeper (ksEnv qual (defScope st) L fI (.ref cda) cc)) s.heap v)
    (hq : ∀ h' tk e d, OwnMade fld s.heap h' e C d v → R (.ok (.ret (.ref e))) { s with heap := h', toks := tk }) :
    codeAny (model prog w) A (.call (.ref C) ⟨[v], []⟩) R s := by
  obtain ⟨nm, q, N, bs, bm, sn, sub, ab, col, dd, k0, k1, k2, k3, k5, hC, hbm⟩ := T.cls
  obtain ⟨hp, g, dr, tk, os⟩ := s
  have k : ∀ b o, hp.get? b = some o → ((hp.push (kdv_tup [v])).push (HandSPX.excO C hp.objs.size)).get? b = some o := fun b o e => Heap.get?_push_of_some _ (Heap.get?_push_of_some _ e)
  have hget : ((hp.push (kdv_tup [v])).push (HandSPX.excO C hp.objs.size)).get? (hp.objs.size + 1) = some (HandSPX.excO C hp.objs.size) := by heap_get
  have hnx : K.lookup (hp.objs.size + 1) = none := by
    cases e : K.lookup (hp.objs.size + 1) with
    | none => rfl
    | some o =>
      have z : hp.get? (hp.objs.size + 1) = some o := X _ _ e
      exact absurd (Nat.lt_of_succ_lt (Heap.lt_size z)) (Nat.lt_irrefl _)
  refine call_own F.excBase_ValueError (fun X => refsVE_contains X bm hbm) (X _ _ hC) (looks_findIn X T.iC) (fun self => bind_fn X self T.tC) (one_line v) ?_
  refine err_init (s := ⟨(hp.push (kdv_tup [v])).push (HandSPX.excO C hp.objs.size), g, dr, tk, os⟩) T (X.keeps k) (G.keeps k) hsup (B.keeps k) hb (hlim.keeps k) hget hnx ?_ (fun L => (sv L).mono k) fun h' tk' dx t1 ⟨k', hx, dn, dne, hns⟩ => ?_
  · have z : (A.under (.builtin "type.__call__" ⟨.ref C :: [v], []⟩)).depth = A.depth + 1 := make_depth
    rw [z]; exact hroom
  · have old : ∀ b o, hp.get? b = some o → h'.get? b = some o := fun b o e => k' b o (Nat.ne_of_lt (Nat.lt_succ_of_lt (Heap.lt_size e))) (k b o e)
    have z : hp.objs.size + 1 + 1 ≤ dx := by
      first
        | (simpa only [Heap.size_push] using dn)
        | exact dn
        | (have q := dn; rw [Heap.size_push, Heap.size_push] at q; exact q)
    exact ⟨rfl, hq h' tk' (hp.objs.size + 1) dx ⟨old, Nat.le_succ _, ⟨_, _, hx, rfl, rfl, rfl, rfl, rfl⟩, Nat.le_trans (Nat.le_trans (Nat.le_succ _) (Nat.le_succ _)) z, dne, hns⟩⟩
end
theorem make_guards {A : Around} {C : Addr} {us : List Value} {kw : List (Str × Value)} : (A.under (.builtin "type.__call__" ⟨.ref C :: us, kw⟩)).guards = A.guards := by
  first | rfl | simp [Around.under, Code.weight, Code.isCreation, Code.isGuard, Code.isCaller, Code.frames, Code.isFrame, guardIds]
theorem relO_fld {fld : Str} {v : V} {v' : Value} (r : RelV v v') (f : Str) : RelO (List.lookup f [(fld, v)]) (if f = fld then some v' else none) := by
  by_cases hw : f = fld
  · subst hw
    rw [if_pos rfl]
    have q : List.lookup f [(f, v)] = some v := by simp [List.lookup]
    rw [q]; exact r
  · rw [if_neg hw]
    have qw : (f == fld) = false := by simpa using hw
    have q2 : List.lookup f [(fld, v)] = none := by simp [List.lookup, qw]
    rw [q2]; trivial
/-- what an error's text can show -/
def Shows (K : Frag) (H : Hp) (v : V) : Prop := (∃ x, v = .str x ∧ x.length ≤ 16000000) ∨ (∃ i, v = .int i ∧ i.natAbs.log2 < 1920) ∨
  ∃ a q, v = .ref a ∧ Dp K H (.ref a) q ∧ q.showable = true ∧ q.hasDict = false ∧ q.depth ≤ 60 ∧ q.shown.length ≤ 16000000
def tMkErr (K : Frag) (C : Addr) (fld : Str) (ta : TA) : L2.St → Hp → XK → Prop := fun σ H Q => ta σ H fun vs H1 => ∃ v, vs = [v] ∧ Shows K H1 v ∧ ∀ d, H1 d = none → Q (.ref C) (some d) (upd H1 d (.xd [(fld, v)]))
section
variable {X : Cx}
theorem pmk_errN {C D fI cc cda : Addr} {par fld qual x : Str} {st : Stmt} {a : Expr} {ta : TA} {p pos : Pos} (T : ErrTxt X.prog X.K qual st C D fI cc cda par fld) (hm : X.mg x = some (.ref C)) (hsup : X.mg "super" = none) (hdp : X.A.depth + 5 < recursionLimit) (hun : X.A.units + 200 < cLine) (hgd : X.A.guards = some []) (ha : PA X [a] ta) (hg : Gl X x)
    (hdb : (x == ("__debug__" : Str)) = false := by decide) (he : starEach (a :: []) X.env = (false, eval a X.env) :: starEach [] X.env := by rfl) (hpl : (backTo pos (starEach [] X.env)).any (·.1) = false := by rfl) :
    L2N.PMk X (.Call (.Name x p) [a] [] pos) (tMkErr X.K C fld ta) := by
  intro pins s σ H Q I h
  refine wpAny_Call_Name_kw (ld_glob I hg hm ?_ hdb)
  refine PySem.W.callWith_K (h₀ := X.base) I.ok.mod.kin T.kC (thn (ha.run pos pins s σ H _ I h) fun us s1 hh => ?_) he hpl
  obtain ⟨vs, H1, I1, r1, v, ev, shw, q1⟩ := hh
  subst ev
  refine ⟨I1.kIn, ?_⟩
  cases r1 with
  | cons rv rn =>
    rename_i v' us'
    cases rn
    show wpAny _ _ (call (.ref C) [v']) _ _ _
    have hlim := I1.nolimit
    have hG : s1.heap.Ns mainGlobals X.mg := I1.mod.glob.keeps I1.bk
    obtain ⟨mb, b1, b2⟩ := I1.mod.blt
    have hB := b1.keeps I1.bk
    have hb : mb "super" = some (.type "super") := (b2 "super" (by decide +kernel)).trans (by decide +kernel)
    have sv : ∀ L, ShowV X.prog X.w ((X.A.under (.builtin "type.__call__" ⟨.ref C :: [v'], []⟩)).deeper (ksEnv qual (defScope st) L fI (.ref cda) cc)) s1.heap v' := fun L => by
      rcases shw with ⟨z, rfl, hz⟩ | ⟨i, rfl, hi⟩ | ⟨b, y, rfl, dp, c1, c2, c3, c4⟩
      · obtain ⟨t, rfl⟩ := rv
        exact showV_str hz
      · obtain ⟨t, rfl⟩ := rv
        exact showV_int hi
      · obtain rfl : v' = Value.ref b := rv
        obtain ⟨as, rd⟩ := Dp.reads I1 y _ _ dp (show RelV (.ref b) (.ref b) from rfl)
        have zu : (X.A.under (.builtin "type.__call__" ⟨.ref C :: [Value.ref b], []⟩)).units = X.A.units + 1 := make_units
        have zg : (X.A.under (.builtin "type.__call__" ⟨.ref C :: [Value.ref b], []⟩)).guards = X.A.guards := make_guards
        refine showV_data rd c1 c2 ?_ ?_ c4
        · show (X.A.under (.builtin "type.__call__" ⟨.ref C :: [Value.ref b], []⟩)).guards = some []
          rw [zg]; exact hgd
        · show (X.A.under (.builtin "type.__call__" ⟨.ref C :: [Value.ref b], []⟩)).units + 3 + (y.depth + 2) < cLine
          rw [zu]; omega
    obtain ⟨hp, g, dr, tk, os⟩ := s1
    refine wpAny_call (err_made T I1.kIn hG hsup hB hb hlim (by omega) sv fun h' tk' e d M => ?_)
    show L2N.MkP X pins σ Q (.ref e) ⟨h', g, dr, tk', os⟩
    obtain ⟨oe, fv, hoe, hc, hd, hdat, h1, h2c⟩ := M.obj
    have hns := M.ns
    obtain ⟨G', g1, g2⟩ := restrict h' fun b => decide (b ≠ e)
    have gk : ∀ b, b ≠ e → G'.get? b = h'.get? b := fun b hb => g1 b (decide_eq_true hb)
    have ge : G'.get? e = none := g2 e (by simp)
    have old : ∀ b o, hp.get? b = some o → G'.get? b = some o := fun b o q => (gk b (Nat.ne_of_lt (Nat.lt_of_lt_of_le (Heap.lt_size q) M.new))).trans (M.keep b o q)
    have ob : ObjOk X.prog X.w (upd H1 d (.xd [(fld, v)])) G' d (.xd [(fld, v)]) :=
      ⟨_, hns.at (fun o q => (gk d M.dne).trans q), fun f => relO_fld rv f⟩
    have J : Inv X pins σ (upd H1 d (.xd [(fld, v)])) ⟨G', g, dr, tk', os⟩ := I1.laid (t' := tk') old M.dbig ob
    refine ⟨e, oe, fv, ⟨G', g, dr, tk', os⟩, _, .ref C, some d, rfl, J, fun b o q => ?_, ge, hoe, ⟨hc, hd, fun vs e => by rw [hdat] at e; cases e; exact h2c⟩, hdat, h1, ?_, rfl, I1.bare, raises_own T.exC T.tyC, q1 d (I1.hok.fresh M.dbig)⟩
    · by_cases hb : b = e
      · have q' : G'.get? b = some o := q
        rw [hb, ge] at q'; cases q'
      · exact (gk b hb).symm.trans q
    · rw [upd_ne (Ne.symm M.dne)]
      exact I1.hok.fresh M.new
end
theorem pmk_of_N {X : Cx} {e : Expr} {t : L2.St → Hp → XK → Prop} (h : L2N.PMk X e t) : PMk X e t := fun pins s σ H Q I q => wpAny_mono (h pins s σ H Q I q) (fun _ _ ⟨a, oe, vs, sI, H', cls, d, e, J, k, hne, ha, hz, r⟩ => ⟨a, oe, vs, sI, H', cls, d, e, J, k, hne, ha, hz.zc, r⟩) fun _ _ z => z
theorem pmk_err {X : Cx} {C D fI cc cda : Addr} {par fld qual x : Str} {st : Stmt} {a : Expr} {ta : TA} {p pos : Pos} {k : Nat} (T : ErrTxt X.prog X.K qual st C D fI cc cda par fld) (hm : X.mg x = some (.ref C)) (hsup : X.mg "super" = none) (hr : RoomG k X.A) (ha : PA X [a] ta) (hg : Gl X x)
    (hdb : (x == ("__debug__" : Str)) = false := by decide) (he : starEach (a :: []) X.env = (false, eval a X.env) :: starEach [] X.env := by rfl) (hpl : (backTo pos (starEach [] X.env)).any (·.1) = false := by rfl) :
    PMk X (.Call (.Name x p) [a] [] pos) (tMkErr X.K C fld ta) := pmk_of_N (pmk_errN T hm hsup (by have := hr.toRoom.dp; omega) (by have := hr.toRoom.un; omega) hr.gd ha hg hdb he hpl)
/-! ### raise X(e) -/
def shOk : D → Bool
  | .str x => decide (x.length ≤ 16000000)
  | .int i => decide (i.natAbs.log2 < 1920)
  | d => match toPy d with
    | some q => isSq d && q.showable && !q.hasDict && decide (q.depth ≤ 60) && decide (q.shown.length ≤ 16000000)
    | none => false
def sRaise (c : Nat) (fld : Str) (e : De) : Ds := fun Γ S => after (e Γ S) Γ fun d S1 => if shOk d = true then .exc ⟨c, [fld], [d]⟩ Γ S1 else .stuck
theorem shOk_shows {C : Cn} {ρ : List Addr} {G H : Hp} (s : SubH C G H) {d : D} {v : V} (h : shOk d = true) (r : Rep C ρ G d v) : Shows C.K H v := by
  have key : (match toPy d with
    | some q => isSq d && q.showable && !q.hasDict && decide (q.depth ≤ 60) && decide (q.shown.length ≤ 16000000)
    | none => false) = true → Shows C.K H v := fun h => by
    split at h
    · rename_i q hq
      simp only [Bool.and_eq_true, decide_eq_true_eq, Bool.not_eq_true'] at h
      obtain ⟨⟨⟨⟨h1, h2⟩, h3⟩, h4⟩, h5⟩ := h
      have dp := dp_of s d v q r hq
      have : ∃ a, v = V.ref a := by
        cases d <;> try cases h1
        · obtain ⟨a, vs, rfl, _⟩ := rep_lst.mp r; exact ⟨a, rfl⟩
        · obtain ⟨a, vs, rfl, _⟩ := rep_tup.mp r; exact ⟨a, rfl⟩
      obtain ⟨a, rfl⟩ := this
      exact .inr (.inr ⟨a, q, rfl, dp, h2, h3, h4, h5⟩)
    · cases h
  cases d with
  | str x => exact .inl ⟨x, rep_str.mp r, of_decide_eq_true h⟩
  | int i => exact .inr (.inl ⟨i, rep_int.mp r, of_decide_eq_true h⟩)
  | _ => exact key h
section
variable {X : Cx} {cls : Nat → Addr} {W : WX}
theorem ds_raise {c k : Nat} {D0 fI cc cda : Addr} {par fld qual x : Str} {st : Stmt} {a : Expr} {δ : De} {p pos pos2 : Pos} (hc : X.calm = true) (T : ErrTxt X.prog X.K qual st (cls (c + 3)) D0 fI cc cda par fld) (hm : X.mg x = some (.ref (cls (c + 3)))) (hsup : X.mg "super" = none) (hr : RoomG k X.A) (tk : Takes X W) (hg : Gl X x) (ha : DE X cls W a δ)
    (hdb : (x == ("__debug__" : Str)) = false := by decide) (he : starEach (a :: []) X.env = (false, eval a X.env) :: starEach [] X.env := by rfl) (hpl : (backTo pos (starEach [] X.env)).any (·.1) = false := by rfl) :
    DS X cls W (.Raise (some (.Call (.Name x p) [a] [] pos)) none pos2) (sRaise c fld δ) :=
  PS.weak (ps_raise hc tk (pmk_err T hm hsup hr (pa_cons ha pa_nil he) hg hdb he hpl)) fun Dn σ H ⟨en, Γ, S, ρ, G, s, p⟩ => ⟨Γ, S, ρ, G, s.mem, post_after s p fun d S1 ρ1 G1 H1 v m n s1 r p1 => by
    split at p1
    · rename_i hsh
      refine ⟨v, rfl, shOk_shows (C := ⟨X.K, cls⟩) m.sub hsh r, fun d1 hd1 => ?_⟩
      obtain ⟨m', n', np, gp⟩ := m.new (o := .xd [(fld, v)]) hd1
      obtain ⟨m2, n2, k2⟩ := Mem.settle m n' m' hd1 gp np upd_same ⟨fun _ z => (nomatch z), fun _ z => (nomatch z)⟩
      exact p1 _ _ ρ1 _ _ σ (s1.step m2 n2) ⟨rfl, (fun z => by cases z), fun _ => ⟨d1, [v], rfl, upd_same, rfl, .cons (r.mono k2 (List.prefix_refl _)) .nil⟩⟩
    · exact p1.elim⟩
end
end DL

namespace DL
open PySem PySem.Spec PyProof.Rows L2
/-! ### try, except -/
def isX : Sl → Bool | .xcp _ => true | _ => false
def noX (Γ : List Sl) : Bool := Γ.all fun s => !isX s
theorem noX_get {Γ : List Sl} (h : noX Γ = true) {i : Nat} {x : Exn} (e : Γ[i]? = some (.xcp x)) : False := by
  have := List.all_eq_true.mp h _ (List.mem_of_getElem? e)
  cases this
section
variable {C C' : Cn} {ρ : List Addr} {G H : Hp}
mutual
theorem Rep.re (hK : C'.K = C.K) (hc : ∀ n, C'.cls (n + 3) = C.cls (n + 3)) : ∀ (d : D) (v : V), Rep C ρ G d v → Rep C' ρ G d v
  | .non, _, h => by rw [Rep] at h ⊢; exact h
  | .bl _, _, h => by rw [Rep] at h ⊢; exact h
  | .int _, _, h => by rw [Rep] at h ⊢; exact h
  | .str _, _, h => by rw [Rep] at h ⊢; exact h
  | .lst xs, _, h => by
    rw [Rep] at h ⊢
    obtain ⟨a, vs, rfl, h1, h2⟩ := h
    exact ⟨a, vs, rfl, h1, Reps.re hK hc xs vs h2⟩
  | .tup xs, _, h => by
    rw [Rep] at h ⊢
    obtain ⟨a, vs, rfl, h1, h2⟩ := h
    exact ⟨a, vs, rfl, by rw [hK]; exact h1, Reps.re hK hc xs vs h2⟩
  | .dct ks xs, _, h => by
    rw [Rep] at h ⊢
    obtain ⟨a, vs, rfl, h1, h3, h2⟩ := h
    exact ⟨a, vs, rfl, h1, h3, Reps.re hK hc xs vs h2⟩
  | .ins c ns xs, _, h => by
    rw [Rep] at h ⊢
    obtain ⟨a, dx, vs, rfl, h1, h3, h2⟩ := h
    exact ⟨a, dx, vs, rfl, by rw [hc]; exact h1, h3, Reps.re hK hc xs vs h2⟩
  | .ptr _, _, h => by rw [Rep] at h ⊢; exact h
  | .scr ns, _, h => by
    rw [Rep] at h ⊢
    obtain ⟨a, rfl, h1⟩ := h
    exact ⟨a, rfl, by rw [hK]; exact h1⟩
  | .fn _ _, _, h => by rw [Rep] at h ⊢; exact h
theorem Reps.re (hK : C'.K = C.K) (hc : ∀ n, C'.cls (n + 3) = C.cls (n + 3)) : ∀ (d : List D) (v : List V), Reps C ρ G d v → Reps C' ρ G d v
  | [], _, h => by rw [Reps] at h ⊢; exact h
  | x :: xs, _, h => by
    rw [Reps] at h ⊢
    obtain ⟨v, r, rfl, h1, h2⟩ := h
    exact ⟨v, r, rfl, Rep.re hK hc x v h1, Reps.re hK hc xs r h2⟩
end
theorem ObAt.re {a : Addr} (hK : C'.K = C.K) (hc : ∀ n, C'.cls (n + 3) = C.cls (n + 3)) : ∀ {d : D}, ObAt C ρ G H a d → ObAt C' ρ G H a d
  | .lst xs, ⟨vs, h, r⟩ => ⟨vs, h, Reps.re hK hc _ _ r⟩
  | .dct ks xs, ⟨vs, h, l, r⟩ => ⟨vs, h, l, Reps.re hK hc _ _ r⟩
  | .ins c ns xs, ⟨dx, vs, h, l, r⟩ => ⟨dx, vs, by rw [hc]; exact h, l, Reps.re hK hc _ _ r⟩
theorem SubH.re (hc : ∀ n, C'.cls (n + 3) = C.cls (n + 3)) (m : SubH C G H) : SubH C' G H := ⟨m.toSubA, fun i z => by
  have e : C'.cls (i + 1000) = C.cls (i + 1000) := hc (i + 997)
  rw [e] at z ⊢
  exact m.tab i z, fun c hk => by
  obtain ⟨q, P, h1, h2, h3⟩ := m.codes c hk
  refine ⟨q, P, h1, h2, fun j z => ?_⟩
  have e : C'.cls (j + 1000) = C.cls (j + 1000) := hc (j + 997)
  rw [e] at z ⊢
  exact h3 j z, m.notb⟩
theorem Mem.re {Γ : List Sl} {S : List D} {σ : L2.St} (hK : C'.K = C.K) (hc : ∀ n, C'.cls (n + 3) = C.cls (n + 3)) (hx : noX Γ = true) (m : Mem C Γ S ρ G H σ) : Mem C' Γ S ρ G H σ where
  sub := m.sub.re hc
  val := fun i d h => by
    obtain ⟨v, e, r⟩ := m.val i d h
    exact ⟨v, e, r.re hK hc⟩
  own := fun i d h => by
    obtain ⟨a, e, r, z⟩ := m.own i d h
    exact ⟨a, e, r.re hK hc, z⟩
  inj := m.inj
  sto := fun i d h => by
    obtain ⟨a, e, r⟩ := m.sto i d h
    exact ⟨a, e, r.re hK hc⟩
  stG := m.stG
  len := m.len
  nd := m.nd
  wid := m.wid
  xcp := fun i x h => (noX_get hx h).elim
theorem SI.re {en : Ent} {Γ : List Sl} {S : List D} {σ : L2.St} (hK : C'.K = C.K) (hc : ∀ n, C'.cls (n + 3) = C.cls (n + 3)) (hx : noX Γ = true) (s : SI C en Γ S ρ G H σ) : SI C' en Γ S ρ G H σ := ⟨s.mem.re hK hc hx, s.nx, s.frs, s.base, s.basr, s.old⟩
/-- a slot takes the error -/
theorem SI.setx {en : Ent} {Γ : List Sl} {S : List D} {σ : L2.St} (s : SI C en Γ S ρ G H σ) (i : Nat) {x : Exn} (r : XOk C ρ G x) : SI C en (Γ.set i (.xcp x)) S ρ G H (σ.set i (some (V.ref (C.cls 0)))) := by
  have ne : ∀ (j : Nat) (y : Sl), (∀ z, y ≠ .xcp z) → (Γ.set i (Sl.xcp x))[j]? = some y → i ≠ j ∧ Γ[j]? = some y := fun j y hy h => by
    by_cases e : i = j
    · subst e
      by_cases hl : i < Γ.length
      · rw [List.getElem?_set_self hl] at h; cases h; exact absurd rfl (hy x)
      · rw [List.getElem?_eq_none (by simpa using hl)] at h; cases h
    · rw [List.getElem?_set_ne e] at h; exact ⟨e, h⟩
  refine ⟨⟨s.mem.sub, fun j d h => ?_, fun j d h => ?_, fun j k d d' a h1 h2 => ?_, s.mem.sto, s.mem.stG, s.mem.len, s.mem.nd, by rw [List.length_set, List.length_set]; exact s.mem.wid, fun j y h => ?_⟩, s.nx, fun j d a h1 h2 => ?_, s.base, s.basr, s.old⟩
  · obtain ⟨e, g⟩ := ne j (.val d) (fun z w => by cases w) h
    rw [List.getElem?_set_ne e]; exact s.mem.val j d g
  · obtain ⟨e, g⟩ := ne j (.own d) (fun z w => by cases w) h
    rw [List.getElem?_set_ne e]; exact s.mem.own j d g
  · obtain ⟨e1, g1⟩ := ne j (.own d) (fun z w => by cases w) h1
    obtain ⟨e2, g2⟩ := ne k (.own d') (fun z w => by cases w) h2
    rw [List.getElem?_set_ne e1, List.getElem?_set_ne e2]
    exact s.mem.inj j k d d' a g1 g2
  · by_cases e : i = j
    · subst e
      by_cases hl : i < Γ.length
      · rw [List.getElem?_set_self hl] at h; cases h
        exact ⟨List.getElem?_set_self (by rw [← s.mem.wid]; exact hl), r⟩
      · rw [List.getElem?_eq_none (by simpa using hl)] at h; cases h
    · rw [List.getElem?_set_ne e] at h
      rw [List.getElem?_set_ne e]; exact s.mem.xcp j y h
  · obtain ⟨e, g⟩ := ne j (.own d) (fun z w => by cases w) h1
    rw [List.getElem?_set_ne e] at h2; exact s.frs j d a g h2
/-- .. and gives it back -/
theorem SI.unset {en : Ent} {Γ : List Sl} {S : List D} {σ : L2.St} (s : SI C en Γ S ρ G H σ) (i : Nat) : SI C en (Γ.set i .non) S ρ G H (σ.set i none) := by
  have ne : ∀ (j : Nat) (y : Sl), y ≠ .non → (Γ.set i Sl.non)[j]? = some y → i ≠ j ∧ Γ[j]? = some y := fun j y hy h => by
    by_cases e : i = j
    · subst e
      by_cases hl : i < Γ.length
      · rw [List.getElem?_set_self hl] at h; cases h; exact absurd rfl hy
      · rw [List.getElem?_eq_none (by simpa using hl)] at h; cases h
    · rw [List.getElem?_set_ne e] at h; exact ⟨e, h⟩
  refine ⟨⟨s.mem.sub, fun j d h => ?_, fun j d h => ?_, fun j k d d' a h1 h2 => ?_, s.mem.sto, s.mem.stG, s.mem.len, s.mem.nd, by rw [List.length_set, List.length_set]; exact s.mem.wid, fun j y h => ?_⟩, s.nx, fun j d a h1 h2 => ?_, s.base, s.basr, s.old⟩
  · obtain ⟨e, g⟩ := ne j (.val d) (fun w => by cases w) h
    rw [List.getElem?_set_ne e]; exact s.mem.val j d g
  · obtain ⟨e, g⟩ := ne j (.own d) (fun w => by cases w) h
    rw [List.getElem?_set_ne e]; exact s.mem.own j d g
  · obtain ⟨e1, g1⟩ := ne j (.own d) (fun w => by cases w) h1
    obtain ⟨e2, g2⟩ := ne k (.own d') (fun w => by cases w) h2
    rw [List.getElem?_set_ne e1, List.getElem?_set_ne e2]
    exact s.mem.inj j k d d' a g1 g2
  · obtain ⟨e, g⟩ := ne j (.xcp y) (fun w => by cases w) h
    rw [List.getElem?_set_ne e]; exact s.mem.xcp j y g
  · obtain ⟨e, g⟩ := ne j (.own d) (fun w => by cases w) h1
    rw [List.getElem?_set_ne e] at h2; exact s.frs j d a g h2
end
/-- the classes by number, while an error is handled -/
def xcls (cls : Nat → Addr) (a : Addr) (d : Option Addr) (v : Value) : Nat → Addr
  | 0 => a
  | 1 => match d with | some d => d + 1 | none => 0
  | 2 => match v with | .ref r => r | _ => 0
  | n + 3 => cls (n + 3)
structure Su (cls cls' : Nat → Addr) (a : Addr) (oe : Obj) : Prop where
  a0 : cls' 0 = a
  z : Zc (.ref (cls' 2)) (match cls' 1 with | 0 => none | d + 1 => some d) oe
  f : ∃ vs, oe.data = .fields vs
  up : ∀ n, cls' (n + 3) = cls (n + 3)
def setxD (i : Option Nat) (e : Exn) (Γ : List Sl) : List Sl := match i with | some i => Γ.set i (.xcp e) | none => Γ
def unxD (i : Option Nat) (Γ : List Sl) : List Sl := match i with | some i => Γ.set i .non | none => Γ
def unx (i : Option Nat) : Out → Out
  | .next Γ S => if noX (unxD i Γ) then .next (unxD i Γ) S else .stuck
  | .brk Γ S => if noX (unxD i Γ) then .brk (unxD i Γ) S else .stuck
  | .cont Γ S => if noX (unxD i Γ) then .cont (unxD i Γ) S else .stuck
  | .ret d S => .ret d S
  | _ => .stuck
def sTry (i : Option Nat) (f : Nat → Option Bool) (b h : Ds) : Ds := fun Γ S => match b Γ S with
  | .exc e Γ1 S1 => match f e.c with
    | some true => if noX Γ1 then unx i (h (setxD i e Γ1) S1) else .stuck
    | some false => .exc e Γ1 S1
    | none => .stuck
  | o => o
theorem PSs.given {X : Cx} {st : List Stmt} {t : TS} {p : Prop} (h : p → PSs X st t) : PSs X st (fun D σ H => p ∧ t D σ H) := ⟨fun pins s σ H D I h' => (h h'.1).run pins s σ H D I h'.2⟩
section
variable {X : Cx} {cls : Nat → Addr} {W : WX} {x n : Str} {i : Nat} {CX : Addr} {body suite : List Stmt} {b₀ : Stmt} {np pos pos' : Pos} {δb δh : Ds} {f : Nat → Option Bool}
def tsD (X : Cx) (cls : Nat → Addr) (δh : Ds) (a : Addr) (clsv : Value) (d : Option Addr) : TS := fun D σ H => clsv = .ref (xcls cls a d clsv 2) ∧ tS ⟨X.K, xcls cls a d clsv⟩ W0 δh D σ H
theorem su_of {a : Addr} {oe : Obj} {clsv : Value} {d : Option Addr} (hz : Zc clsv d oe) (hf : ∃ vs, oe.data = .fields vs) (e : clsv = .ref (xcls cls a d clsv 2)) : Su cls (xcls cls a d clsv) a oe := ⟨rfl, by
  rw [← e]
  cases d with
  | none => exact hz
  | some d => exact hz, hf, fun n => rfl⟩
theorem try_core {C C' : Cn} {en : Ent} {Dn : Ends} {oi : Option Nat} {o : Out} (hK : C'.K = C.K) (hc : ∀ n, C'.cls (n + 3) = C.cls (n + 3)) {un : L2.St → L2.St} (hun : ∀ Γ S ρ G H σ, SI C' en Γ S ρ G H σ → SI C' en (unxD oi Γ) S ρ G H (un σ))
    (p : PostS C W en Dn (unx oi o)) : PostS C' W0 en { nx := fun σ H => Dn.nx (un σ) H, rt := Dn.rt, bk := fun σ H => Dn.bk (un σ) H, ct := fun σ H => Dn.ct (un σ) H } o := by
  have hK' := hK.symm
  have hc' : ∀ n, C.cls (n + 3) = C'.cls (n + 3) := fun n => (hc n).symm
  cases o with
  | next Γ S =>
    replace p : PostS C W en Dn (if noX (unxD oi Γ) = true then .next (unxD oi Γ) S else .stuck) := p
    split at p
    · rename_i hx
      exact fun ρ G H σ s => p ρ G H _ ((hun _ _ _ _ _ _ s).re hK' hc' hx)
    · exact p.elim
  | brk Γ S =>
    replace p : PostS C W en Dn (if noX (unxD oi Γ) = true then .brk (unxD oi Γ) S else .stuck) := p
    split at p
    · rename_i hx
      exact fun ρ G H σ s => p ρ G H _ ((hun _ _ _ _ _ _ s).re hK' hc' hx)
    · exact p.elim
  | cont Γ S =>
    replace p : PostS C W en Dn (if noX (unxD oi Γ) = true then .cont (unxD oi Γ) S else .stuck) := p
    split at p
    · rename_i hx
      exact fun ρ G H σ s => p ρ G H _ ((hun _ _ _ _ _ _ s).re hK' hc' hx)
    · exact p.elim
  | ret d S => exact fun v ρ G H m n o r => p v ρ G H (Mem.re hK' hc' rfl m) n o (r.re hK' hc')
  | exc e Γ S => exact p.elim
  | stuck => exact p.elim
theorem xok_of {ρ : List Addr} {G H : Hp} {e : Exn} {clsv : Value} {d : Option Addr} {a : Addr} (er : ExRep ⟨X.K, cls⟩ ρ G H e clsv d) : clsv = .ref (xcls cls a d clsv 2) ∧ XOk ⟨X.K, xcls cls a d clsv⟩ ρ G e := by
  obtain ⟨e1, e2, e3⟩ := er
  subst e1
  refine ⟨rfl, rfl, fun z => ?_, fun z => ?_⟩
  · rw [e2 z]; rfl
  · obtain ⟨d1, vs, rfl, g, l, r⟩ := e3 z
    exact ⟨d1, vs, rfl, g, l, Reps.re (C := ⟨X.K, cls⟩) (C' := ⟨X.K, xcls cls a (some d1) _⟩) rfl (fun n => rfl) _ _ r⟩
theorem ds_try_as (hs : X.stack = X.env :: X.outer) (hfr : X.env.frame = some X.env.locals) (hN : X.N.Nodup) (hi : X.N[i]? = some n) (hln : X.env.kindOf n = some .local) (hc : Names X x (.ref CX)) (tk : Takes X W)
    (hf : ∀ c b, f c = some b → PySem.W.exmOne X.K (.ref (cls (c + 3))) (.ref CX) = some b)
    (hb : ∀ (W : WX) (pn : List (Addr × Obj)) (xe : Value → Shared → Prop), Takes (X.tr pn xe) W → PassesOwn (model X.prog X.w) X.A X.env xe → DSs (X.tr pn xe) cls W body δb)
    (hsu : ∀ (a : Addr) (oe : Obj) (pn : List (Addr × Obj)) (cls' : Nat → Addr), Su cls cls' a oe → DSs (X.suite a ((a, oe) :: pn)) cls' W0 (b₀ :: suite) δh) :
    DS X cls W (.Try body [.ExceptHandler (some (.Name x np)) (some n) (b₀ :: suite) pos'] [] [] pos) (sTry (some i) f δb δh) :=
  PS.weak (ps_try_as (tb := fun W => tS ⟨X.K, cls⟩ W δb) (ts := tsD X cls δh) hs hfr hN hi hln hc tk (fun W pn xe tk hp => hb W pn xe tk hp)
    (fun a oe clsv d pn hz hf => PSs.given fun e => hsu a oe pn _ (su_of hz hf e))) fun Dn σ H ⟨en, Γ, S, ρ, G, s, p⟩ => ⟨en, Γ, S, ρ, G, s, by
    unfold sTry at p
    cases q : δb Γ S with
    | next Γ1 S1 => rw [q] at p; exact p
    | brk Γ1 S1 => rw [q] at p; exact p
    | cont Γ1 S1 => rw [q] at p; exact p
    | ret d S1 => rw [q] at p; exact p
    | stuck => rw [q] at p; exact p
    | exc e Γ1 S1 =>
      rw [q] at p
      intro clsv dx ρ1 G1 H1 σ1 s1 er
      have ec : clsv = .ref (cls (e.c + 3)) := er.1
      simp only at p
      cases hfe : f e.c with
      | none => rw [hfe] at p; exact p.elim
      | some b =>
        rw [hfe] at p
        refine ⟨b, by rw [ec]; exact hf _ _ hfe, fun hbt a na => ?_, fun hbf => ?_⟩
        · subst hbt
          simp only at p
          split at p
          · rename_i hx
            obtain ⟨z1, z2⟩ := xok_of (X := X) (a := a) er
            have s2 := (SI.re (C := ⟨X.K, cls⟩) (C' := ⟨X.K, xcls cls a dx clsv⟩) rfl (fun n => rfl) hx s1).setx i z2
            exact ⟨z1, en, _, S1, ρ1, G1, s2, try_core (C := ⟨X.K, cls⟩) (C' := ⟨X.K, xcls cls a dx clsv⟩) (oi := some i) rfl (fun n => rfl) (fun _ _ _ _ _ _ s => s.unset i) p⟩
          · exact p.elim
        · subst hbf
          exact p clsv dx ρ1 G1 H1 σ1 s1 er⟩
theorem ds_try_only (hs : X.stack = X.env :: X.outer) (hfr : X.env.frame = some X.env.locals) (hc : Names X x (.ref CX)) (tk : Takes X W)
    (hf : ∀ c b, f c = some b → PySem.W.exmOne X.K (.ref (cls (c + 3))) (.ref CX) = some b)
    (hb : ∀ (W : WX) (pn : List (Addr × Obj)) (xe : Value → Shared → Prop), Takes (X.tr pn xe) W → PassesOwn (model X.prog X.w) X.A X.env xe → DSs (X.tr pn xe) cls W body δb)
    (hsu : ∀ (a : Addr) (oe : Obj) (pn : List (Addr × Obj)) (cls' : Nat → Addr), Su cls cls' a oe → DSs (X.suite a ((a, oe) :: pn)) cls' W0 (b₀ :: suite) δh) :
    DS X cls W (.Try body [.ExceptHandler (some (.Name x np)) none (b₀ :: suite) pos'] [] [] pos) (sTry none f δb δh) :=
  PS.weak (ps_try_only (tb := fun W => tS ⟨X.K, cls⟩ W δb) (ts := tsD X cls δh) hs hfr hc tk (fun W pn xe tk hp => hb W pn xe tk hp)
    (fun a oe clsv d pn hz hf => PSs.given fun e => hsu a oe pn _ (su_of hz hf e))) fun Dn σ H ⟨en, Γ, S, ρ, G, s, p⟩ => ⟨en, Γ, S, ρ, G, s, by
    unfold sTry at p
    cases q : δb Γ S with
    | next Γ1 S1 => rw [q] at p; exact p
    | brk Γ1 S1 => rw [q] at p; exact p
    | cont Γ1 S1 => rw [q] at p; exact p
    | ret d S1 => rw [q] at p; exact p
    | stuck => rw [q] at p; exact p
    | exc e Γ1 S1 =>
      rw [q] at p
      intro clsv dx ρ1 G1 H1 σ1 s1 er
      have ec : clsv = .ref (cls (e.c + 3)) := er.1
      simp only at p
      cases hfe : f e.c with
      | none => rw [hfe] at p; exact p.elim
      | some b =>
        rw [hfe] at p
        refine ⟨b, by rw [ec]; exact hf _ _ hfe, fun hbt a na => ?_, fun hbf => ?_⟩
        · subst hbt
          simp only at p
          split at p
          · rename_i hx
            obtain ⟨z1, z2⟩ := xok_of (X := X) (a := a) er
            have s2 := SI.re (C := ⟨X.K, cls⟩) (C' := ⟨X.K, xcls cls a dx clsv⟩) rfl (fun n => rfl) hx s1
            exact ⟨z1, en, _, S1, ρ1, G1, s2, try_core (C := ⟨X.K, cls⟩) (C' := ⟨X.K, xcls cls a dx clsv⟩) (oi := none) (un := fun σ => σ) rfl (fun n => rfl) (fun _ _ _ _ _ _ s => s) p⟩
          · exact p.elim
        · subst hbf
          exact p clsv dx ρ1 G1 H1 σ1 s1 er⟩
end
/-! ### e.f, e the error that is handled -/
def eXf (i : Nat) (f : Str) (g : Nat → Bool) : De := fun Γ S => match Γ[i]? with
  | some (.xcp x) => if g x.c = true then ofO ((x.ns.zip x.fs).lookup f) S else .stuck
  | _ => .stuck
theorem zip_lookup {C : Cn} {ρ : List Addr} {G : Hp} {f : Str} {d : D} : ∀ {ns : List Str} {ds : List D} {vs : List V}, Reps C ρ G ds vs → (ns.zip ds).lookup f = some d → ∃ v, (ns.zip vs).lookup f = some v ∧ Rep C ρ G d v
  | [], _, _, _, h => by cases h
  | n :: ns, [], _, _, h => by cases h
  | n :: ns, d0 :: ds, vs, r, h => by
    obtain ⟨v, us, rfl, h1, h2⟩ := r.inv
    rw [List.zip_cons_cons] at h ⊢
    by_cases e : f = n
    · subst e
      simp [List.lookup] at h
      subst h
      exact ⟨v, by simp [List.lookup], h1⟩
    · have e2 : (f == n) = false := by simpa using e
      simp only [List.lookup, e2] at h ⊢
      exact zip_lookup h2 h
section
variable {X : Cx} {cls cls' : Nat → Addr} {a : Addr} {oe : Obj} {pn : List (Addr × Obj)} {pos p p2 : Pos} {f y : Str} {g : Nat → Bool}
theorem de_xf (u : Su cls cls' a oe) (i : Nat) {x : Str} (hg : ∀ c, g c = true → XfC X.K (cls (c + 3)) ∧ PySem.W.findIn X.K (.ref (cls (c + 3))) f = some none) (he : PE (X.suite a ((a, oe) :: pn)) (.Name x p) (tVar i))
    (hb : attributeBase (.Name x p) f X.env (eval (.Name x p) X.env) = eval (.Name x p) X.env := by rfl) : DE (X.suite a ((a, oe) :: pn)) cls' W0 (.Attribute (.Name x p) f pos) (eXf i f g) := by
  refine ⟨fun pins s σ H Q I h => ?_⟩
  obtain ⟨Γ, S, ρ, G, m, q⟩ := h
  unfold eXf at q
  split at q
  · rename_i xn hx
    split at q
    · rename_i hgx
      obtain ⟨d, hd, q2⟩ := ofO_post q
      obtain ⟨e0, x1, x2, x3⟩ := m.xcp i xn hx
      have hcls : cls' 2 = cls (xn.c + 3) := x1.trans (u.up _)
      obtain ⟨T, hno⟩ := hg _ hgx
      have hfs : xn.fs ≠ [] := fun z => by rw [z] at hd; cases hn : xn.ns <;> rw [hn] at hd <;> cases hd
      obtain ⟨d1, vs, e1, gd, hl, r⟩ := x3 hfs
      obtain ⟨v, hv, rv⟩ := zip_lookup r hd
      have hz := u.z
      have e1' : cls' 1 = d1 + 1 := e1
      rw [e1'] at hz
      have a0 : cls' 0 = a := u.a0
      have e0' : σ[i]? = some (some (V.ref a)) := by rw [← a0]; exact e0
      exact (pe_xf (X := X) (C := cls (xn.c + 3)) (cls := .ref (cls' 2)) (d := some d1) T hno hz u.f he hb).run pins s σ H Q I ⟨_, e0', rfl, by rw [hcls], d1, _, v, rfl, m.sub.get gd (fun _ z => nomatch z), hv, q2.at m rv⟩
    · exact q.elim
  · exact q.elim
end
end DL

namespace DL
open PySem PySem.Spec PyProof.Rows L2
/-! ### isinstance(e, X), e the error that is handled -/
def eIsX (i : Nat) (f : Nat → Option Bool) : De := fun Γ S => match Γ[i]? with
  | some (.xcp x) => ofO ((f x.c).map .bl) S
  | _ => .stuck
section
variable {X : Cx} {cls cls' : Nat → Addr} {a CX : Addr} {oe : Obj} {pn : List (Addr × Obj)} {pos p p1 p2 : Pos} {x y : Str} {f : Nat → Option Bool}
def rIsX (K : PySem.W.Frag) (cls' : Nat → Addr) (a CX : Addr) : List V → Hp → VK → Prop := fun xs H Q => ∃ b, xs = [.ref a, .ref CX] ∧ ExcC K (cls' 2) ∧ (∀ d, cls' 1 = d + 1 → ∃ fs, H d = some (.xd fs)) ∧ PySem.W.kitOne K (.ref (cls' 2)) (.ref CX) = some b ∧ Q (.bl b) H
theorem call_isX (u : Su cls cls' a oe) : CallR (X.suite a ((a, oe) :: pn)) (.builtin "isinstance") (rIsX X.K cls' a CX) := by
  intro pins s σ H xs us Q I r h
  obtain ⟨b, rfl, C, hd, e, q⟩ := h
  cases r with
  | cons rx rr =>
    cases rr with
    | cons rt rr =>
      cases rr
      cases rx
      cases rt
      obtain ⟨hget, _⟩ := I.pin (a, oe) (List.mem_append.mpr (.inl List.mem_cons_self))
      obtain ⟨vs, hv⟩ := u.f
      have hz := u.z
      obtain ⟨cd, hcd, _⟩ := PySem.W.any_some C.hd
      have fin : ∀ od, PySem.W.InstAt s.heap a oe (cls' 2) od → wpAny (model X.prog X.w) X.A.in1 (pure ()) (fun _ _ => True) (fun _ _ => True) s → wpAny (model (X.suite a ((a, oe) :: pn)).prog (X.suite a ((a, oe) :: pn)).w) (X.suite a ((a, oe) :: pn)).A (call (.builtin "isinstance") [.ref a, .ref CX]) (EP (X.suite a ((a, oe) :: pn)) pins σ Q) (X.suite a ((a, oe) :: pn)).xe s := fun od J _ =>
        PySem.W.kia_one (PySem.W.kitx_exc (by rw [hcd]; rfl) C.hg C.hk C.hs C.ha C.hn C.ht C.hm) I.kIn J e (fun z => nomatch z) fun tk => ⟨.bl b, H, I.kept (t' := tk) fun _ _ z => z, rfl, q⟩
      cases h1 : cls' 1 with
      | zero =>
        rw [h1] at hz
        refine fin none ?_ (wpAny_pure trivial)
        exact ⟨hget, hz.1, by unfold PySem.W.notCls; rw [hv] <;> rfl, by rw [hz.2]; trivial⟩
      | succ d =>
        rw [h1] at hz
        obtain ⟨fs, hfs⟩ := hd d h1
        have hx : ObjOk X.prog X.w H s.heap d (.xd fs) := I.hok d _ hfs
        obtain ⟨mA, hns, hr⟩ := hx
        obtain ⟨od, ho, hl⟩ := lookIn_ns hns
        refine fin (some od) ?_ (wpAny_pure trivial)
        exact ⟨hget, hz.1, by unfold PySem.W.notCls; rw [hv] <;> rfl, by rw [hz.2]; exact ho⟩
theorem de_isx (u : Su cls cls' a oe) (i : Nat) (hg : Gl X "isinstance") (hm : X.mg "isinstance" = none) (hgC : Gl X y) (hmC : X.mg y = some (.ref CX)) (hf : ∀ c b, f c = some b → ExcC X.K (cls (c + 3)) ∧ PySem.W.kitOne X.K (.ref (cls (c + 3))) (.ref CX) = some b)
    (hx : PE (X.suite a ((a, oe) :: pn)) (.Name x p1) (tVar i)) (hdb : (y == ("__debug__" : Str)) = false := by decide)
    (he : starEach [.Name x p1, .Name y p2] (X.suite a ((a, oe) :: pn)).env = (false, eval (.Name x p1) (X.suite a ((a, oe) :: pn)).env) :: starEach [.Name y p2] (X.suite a ((a, oe) :: pn)).env := by rfl) (he2 : starEach [.Name y p2] (X.suite a ((a, oe) :: pn)).env = (false, eval (.Name y p2) (X.suite a ((a, oe) :: pn)).env) :: starEach [] (X.suite a ((a, oe) :: pn)).env := by rfl)
    (hpl : (backTo pos (starEach [.Name y p2] (X.suite a ((a, oe) :: pn)).env)).any (·.1) = false := by rfl) :
    DE (X.suite a ((a, oe) :: pn)) cls' W0 (.Call (.Name "isinstance" p) [.Name x p1, .Name y p2] [] pos) (eIsX i f) :=
  PE.weak (pe_callB (X := X.suite a ((a, oe) :: pn)) (call_isX (X := X) (CX := CX) u) hg hm (by decide +kernel) (pa_cons hx (pa_cons (pe_glob (X := X.suite a ((a, oe) :: pn)) (v := .ref CX) hgC hmC rfl hdb) pa_nil he2) he) (by decide) (by decide) he hpl) fun σ H Q ⟨Γ, S, ρ, G, m, q⟩ => by
    unfold eIsX at q
    split at q
    · rename_i xn hxn
      obtain ⟨d, hd, q2⟩ := ofO_post q
      obtain ⟨e0, x1, x2, x3⟩ := m.xcp i xn hxn
      have hcls : cls' 2 = cls (xn.c + 3) := x1.trans (u.up _)
      cases hfc : f xn.c with
      | none => rw [hfc] at hd; cases hd
      | some b =>
        rw [hfc] at hd; cases hd
        obtain ⟨C, k⟩ := hf _ _ hfc
        have a0 : cls' 0 = a := u.a0
        have e0' : σ[i]? = some (some (V.ref a)) := by rw [← a0]; exact e0
        refine ⟨_, e0', b, rfl, by rw [hcls]; exact C, fun d hd => ?_, by rw [hcls]; exact k, q2.at m (rep_bl.mpr rfl)⟩
        by_cases z : xn.fs = []
        · have y1 : cls' 1 = 0 := x2 z
          rw [y1] at hd; cases hd
        · obtain ⟨d1, vs, e1, gd, _, _⟩ := x3 z
          have y1 : cls' 1 = d1 + 1 := e1
          rw [y1] at hd; cases hd
          exact ⟨_, m.sub.get gd (fun _ z => nomatch z)⟩
    · exact q.elim
end
end DL

namespace DL
open PySem PySem.Spec PyProof.Rows L2
/-! ### dict comprehensions -/
def dcompD (p : Pat) (τ : Dt) (κ ε : De) : List D → List Sl → List D → List Key × List D → Res (List Key × List D)
  | [], _, S, acc => .ok acc S
  | x :: xs, Γ, S, acc => match p.bind x Γ with
    | none => .stuck
    | some Γ1 => (nox (τ Γ1 S)).bind fun k S1 => if k then (nox (κ Γ1 S1)).bind fun y S2 => (nox (ε Γ1 S2)).bind fun z S3 => match keyD y with
        | some q => if acc.2.length < sizeLine then dcompD p τ κ ε xs Γ S3 (dPut acc.1 acc.2 q z) else .stuck
        | none => .stuck
      else dcompD p τ κ ε xs Γ S1 acc
def eDComp (ι : Da) (p : Pat) (vs : List Nat) (τ : Dt) (κ ε : De) : De := fun Γ S => (ι Γ S).bind fun xs S1 => (dcompD p τ κ ε xs (wipeD Γ vs) S1 ([], [])).bind fun a S2 => .ok (.dct a.1 a.2) S2
section
variable {X : Cx} {cls : Nat → Addr} {W : WX}
theorem x_dcomp {ι : Da} {p : Pat} {τ : Dt} {κ ε : De} {vs : List Nat} (hv : ∀ i ∈ p.vars, i ∈ vs) {σ : L2.St} {H : Hp} {Q : VK} (h : tE ⟨X.K, cls⟩ W (RF ⟨X.K, cls⟩) (eDComp ι p vs τ κ ε) σ H Q) :
    tDc (tI ⟨X.K, cls⟩ W ι) (p.g X.K) (tT ⟨X.K, cls⟩ W0 τ) (tE ⟨X.K, cls⟩ W0 (RS ⟨X.K, cls⟩) κ) (tE ⟨X.K, cls⟩ W0 (RS ⟨X.K, cls⟩) ε) vs σ H Q := by
  obtain ⟨Γ, S, ρ, G, m, q⟩ := h
  refine ⟨Γ, S, ρ, G, m, ?_⟩
  unfold eDComp at q
  cases z : ι Γ S with
  | exc x S1 => rw [z] at q; exact q
  | stuck => rw [z] at q; exact q
  | ok xs S1 =>
    rw [z] at q
    simp only [Res.bind_ok] at q
    intro J ρ1 G1 H1 m1 n1 sk D0 hD
    have hown : ∀ (i : Nat) (d : D) (b : Addr), Γ[i]? = some (Sl.own d) → σ[i]? = some (some (V.ref b)) → b ≠ D0 := fun i d b h1 h2 e => by
      obtain ⟨b', e', r', _⟩ := m1.own i d h1
      rw [h2] at e'; cases e'
      obtain ⟨o, ho⟩ := r'.some
      rw [e, hD] at ho; cases ho
    have gD : G1 D0 = none := by
      cases e : G1 D0 with
      | none => rfl
      | some o => obtain ⟨_, z⟩ := m1.sub.has e; rw [z] at hD; cases hD
    have pD : D0 ∉ ρ1 := fun e => by
      obtain ⟨i, hi⟩ := List.mem_iff_getElem?.mp e
      have hi2 : i < S1.length := by rw [← m1.len]; exact (List.getElem?_eq_some_iff.mp hi).1
      obtain ⟨a, ha, r⟩ := m1.sto i S1[i] (List.getElem?_eq_getElem hi2)
      rw [hi] at ha; cases ha
      obtain ⟨o, ho⟩ := r.some
      rw [ho] at hD; cases hD
    let Pv : Nat → Hp → Prop := fun i H => ∃ S ρ G us, ∃ acc : List Key × List D, Mem ⟨X.K, cls⟩ Γ S ρ G H σ ∧ H D0 = some (.dK (acc.1.zip us)) ∧ acc.1.length = acc.2.length ∧ Reps ⟨X.K, cls⟩ ρ G acc.2 us ∧ D0 ∉ ρ ∧ G D0 = none ∧ Nx ρ1 G1 H1 ρ G H ∧
      dcompD p τ κ ε xs (wipeD Γ vs) S1 ([], []) = dcompD p τ κ ε (xs.drop i) (wipeD Γ vs) S acc
    refine ⟨fun i mm H => mm = xs.length - i ∧ i ≤ xs.length ∧ Pv i H, ⟨xs.length, by omega, Nat.zero_le _, S1, ρ1, G1, [], ([], []), m1.aside gD (noTE_of hD) pD hown, upd_same, rfl, .nil, pD, gD, Nx.refl.aside hD, ?_⟩, fun i mm H ⟨hm, hi, S, ρ, G, us, acc, ms, hacc, hlen, racc, pD', gD', nn, eqn⟩ => ?_⟩
    · rw [List.drop_zero]
    · have sub1 : Sub G1 G := nn.ext
      by_cases hlt : i < xs.length
      · rw [List.drop_eq_getElem_cons hlt, dcompD] at eqn
        refine .inr ⟨sk.go S ρ G H i ms.toS sub1 nn.pre (old_of m1 nn) hlt, Pv (i + 1), fun H' n => ⟨xs.length - (i + 1), by omega, rfl, hlt, n⟩, fun x H' y => ?_⟩
        obtain ⟨G', m', n', r'⟩ := sk.yld S ρ G H i x H' _ ms.toS sub1 nn.pre (old_of m1 nn) (List.getElem?_eq_getElem hlt) y
        have mH' := ms.step n' m'
        have mw := mH'.wipe vs
        cases hbd : p.bind xs[i] (wipeD Γ vs) with
        | none => rw [hbd] at eqn; rw [eqn] at q; exact q.elim
        | some Γ1 =>
          rw [hbd] at eqn
          simp only at eqn
          refine Pat.ok (C := ⟨X.K, cls⟩) p xs[i] x (wipeD Γ vs) Γ1 (L2.wipe σ vs) mw r' hbd _ fun σ2 m2 _ kp => ⟨?_, Γ1, S, ρ, G', m2, ?_⟩
          · rw [wipe_eq kp.1 fun j hj => kp.2 j fun h => hj (hv j h), wipe_eq (L2.wipe_length σ vs) fun j hj => wipe_out2 hj]
          · cases zt : τ Γ1 S with
            | exc x2 S2 => rw [zt] at eqn; rw [eqn] at q; exact q.elim
            | stuck => rw [zt] at eqn; rw [eqn] at q; exact q.elim
            | ok k S2 =>
              rw [zt] at eqn
              simp only [nox_ok, Res.bind_ok] at eqn
              intro kv ρ2 G2 H2 mm2 nn2 rk
              have ek : k = kv := rk
              subst ek
              have nnH : Nx ρ G H ρ2 G2 H2 := n'.trans nn2
              have mg2 : Mem ⟨X.K, cls⟩ Γ S2 ρ2 G2 H2 σ := ms.step nnH mm2.toS
              have outρ : ∀ {ρ5 : List Addr} {G5 H5 : Hp}, Nx ρ G H ρ5 G5 H5 → D0 ∉ ρ5 := fun {ρ5 G5 H5} nn z => by
                rcases nn.fre _ z with z | z
                · exact pD' z
                · rw [hacc] at z; cases z
              have outG : ∀ {ρ5 : List Addr} {G5 H5 : Hp}, Nx ρ G H ρ5 G5 H5 → G5 D0 = none := fun {ρ5 G5 H5} nn => by
                cases e : G5 D0 with
                | none => rfl
                | some o => rcases nn.new _ _ e with z | z
                            · rw [gD'] at z; cases z
                            · rw [hacc] at z; cases z
              cases k with
              | false =>
                simp only [Bool.false_eq_true, if_false] at eqn
                exact iteF ⟨S2, ρ2, G2, us, acc, mg2, nnH.keep _ _ (fun _ z => nomatch z) hacc pD', hlen, Reps.mono nnH.ext nnH.pre _ _ racc, outρ nnH, outG nnH, nn.trans nnH, eqn⟩
              | true =>
                simp only [if_true] at eqn
                refine iteT ⟨Γ1, S2, ρ2, G2, mm2, ?_⟩
                cases zk : κ Γ1 S2 with
                | exc x3 S3 => rw [zk] at eqn; rw [eqn] at q; exact q.elim
                | stuck => rw [zk] at eqn; rw [eqn] at q; exact q.elim
                | ok dk S3 =>
                  rw [zk] at eqn
                  simp only [nox_ok, Res.bind_ok] at eqn
                  intro kv3 ρ3 G3 H3 mm3 nn3 rk3
                  refine ⟨Γ1, S3, ρ3, G3, mm3, ?_⟩
                  cases ze : ε Γ1 S3 with
                  | exc x3 S4 => rw [ze] at eqn; rw [eqn] at q; exact q.elim
                  | stuck => rw [ze] at eqn; rw [eqn] at q; exact q.elim
                  | ok d S4 =>
                    rw [ze] at eqn
                    simp only [nox_ok, Res.bind_ok] at eqn
                    intro dv ρ4 G4 H4 mm4 nn4 rd
                    have nn5 : Nx ρ G H ρ4 G4 H4 := (nnH.trans nn3).trans nn4
                    have hacc4 := nn5.keep _ (HO.dK _) (fun _ z => nomatch z) hacc pD'
                    have mg4 : Mem ⟨X.K, cls⟩ Γ S4 ρ4 G4 H4 σ := ms.step nn5 mm4.toS
                    have racc4 := Reps.mono nn5.ext nn5.pre _ _ racc
                    cases hq : keyD dk with
                    | none => rw [hq] at eqn; rw [eqn] at q; exact q.elim
                    | some qk =>
                      rw [hq] at eqn
                      simp only at eqn
                      split at eqn
                      · rename_i hsz
                        obtain ⟨us2, e1, e2, e3⟩ := put_zip rd racc4 hlen qk
                        refine ⟨_, qk, keyD_v hq (rk3.mono nn4.ext nn4.pre), hacc4, ?_, S4, ρ4, G4, us2, dPut acc.1 acc.2 qk d, mg4.aside (outG nn5) (noTE_dK hacc4) (outρ nn5) hown, by rw [upd_same, e1], e2, e3, outρ nn5, outG nn5, (nn.trans nn5).aside hD, eqn⟩
                        rw [List.length_zip, hlen, racc4.length, Nat.min_self, ← racc4.length]; exact hsz
                      · rw [eqn] at q; exact q.elim
      · have e : i = xs.length := by omega
        subst e
        refine .inl ⟨sk.stop S ρ G H ms.toS sub1 nn.pre (old_of m1 nn), ?_⟩
        rw [List.drop_length, dcompD] at eqn
        rw [eqn] at q
        simp only [Res.bind_ok] at q
        exact q _ ρ G H ms (n1.trans nn) ⟨D0, rfl, pD', n1.live _ hD, gD', us, hacc, hlen, racc⟩
theorem df_dcomp {kx vx tg iter : Expr} {ifs : List Expr} {scope : Scope} {own : List (Str × Nat)} {pos : Pos} {ι : Da} {p : Pat} {τ : Dt} {κ ε : De} (hc : X.calm = true) (hN : X.N.Nodup) (hi : DI X cls W tg iter ι) (ok : BlkOk X.N X.env.scope scope own) (hv : ∀ i ∈ p.vars, i ∈ own.map (·.2))
    (hg : ∀ (s : Shared) (H : Hp) (C : Addr) (cl : List (Str × Addr)) (fp : List Addr), PG (X.blk s H scope (compEnvC scope cl C X.env) fp) tg (p.g X.K)) (ht : ∀ (s : Shared) (H : Hp) (C : Addr) (cl : List (Str × Addr)) (fp : List Addr), DTs (X.blk s H scope (compEnvC scope cl C X.env) fp) cls ifs τ)
    (hk : ∀ (s : Shared) (H : Hp) (C : Addr) (cl : List (Str × Addr)) (fp : List Addr), DE (X.blk s H scope (compEnvC scope cl C X.env) fp) cls W0 kx κ)
    (he : ∀ (s : Shared) (H : Hp) (C : Addr) (cl : List (Str × Addr)) (fp : List Addr), DE (X.blk s H scope (compEnvC scope cl C X.env) fp) cls W0 vx ε) (hs : ∀ x, foldedSetIterable iter X.env x = pure x := by intro _; rfl) :
    DF X cls W (.DictComp kx vx [⟨tg, iter, ifs, 0⟩] scope pos) (eDComp ι p (own.map (·.2)) τ κ ε) :=
  PE.weak (pe_dc (tt := tT ⟨X.K, cls⟩ W0 τ) (tk := tE ⟨X.K, cls⟩ W0 (RS ⟨X.K, cls⟩) κ) (tv := tE ⟨X.K, cls⟩ W0 (RS ⟨X.K, cls⟩) ε) hc hN hi ok hg ht hk he hs) fun σ H Q h => x_dcomp hv h
end
end DL

namespace DL
open PySem PySem.Spec PyProof.Rows L2
theorem RoomG.u1 {k : Nat} {A : Around} (r : RoomG k A) : A.units + 1 < cLine := by have := r.units; omega
theorem errBody {prog : Program} {K : PySem.W.Frag} {qual : Str} {st : Stmt} {C D fI cc cda : Addr} {par fld : Str} (tx : ErrSt st par fld)
    {nm q : Str} {N : Addr} {bs bm : List Value} {sn : List Str} {sub : List Value} {ab : Bool} {col : Option Bool} {dd : Option Addr} {k0 k1 k2 k3 k5 : Option Value}
    (cls : K.lookup C = some (excClassObj nm q C N bs bm true sn sub ab col dd k0 k1 k2 k3 k5 "ValueError.__new__")) (rv : PySem.HandSPX.refsVE bm = true)
    (sa : PySem.W.findIn K (.ref C) "__setattr__" = some (some (.builtin "object.__setattr__"))) (noN : PySem.W.findIn K (.ref C) fld = some none) (iC : PySem.W.findIn K (.ref C) "__init__" = some (some (.ref fI))) (tC : PySem.W.typeIn K (.ref fI) = some (.type "function"))
    (kC : PySem.W.keepIn K (.ref C) = true) (exC : PySem.W.subIn K (.ref C) (.type "BaseException") = some true) (veC : PySem.W.subIn K (.ref C) (.type "ValueError") = some true) (tyC : PySem.W.typeIn K (.ref C) = some (.type "type"))
    (sup : PySem.W.ks_superIn K C D "__init__" = some (some (.builtin "ValueError.__init__"))) (mCD : PySem.W.mroIn K C (.ref D) = some true) (clD : PySem.W.isClsIn K D = true)
    {cl : Value} {cld : Option Addr} {csl : Array (Option Value)} (cell : K.lookup cc = some ⟨cl, cld, .cell (some (.ref D)), csl⟩)
    {ccl : Value} {cdd : Option Addr} {vs : Array Value} {ccs : Array (Option Value)} {file : Str} {tf : Tok} (code : K.lookup cda = some ⟨ccl, cdd, .fields vs, ccs⟩) (v2 : vs[2]? = some (.str file tf)) (hfile : ((prog.main.file : Str) == file) = true)
    (thp : PySem.W.nsIn K cStatics "thirdparty.any" = some none) (top : (prog.main.scope.names.lookup ("super" : Str)).isSome = false)
    {oc : Value} {od : Option Addr} {kV doc pm : Value} {an : Option Addr} {ct : Value} {osl : Array (Option Value)}
    (fn : K.lookup fI = some ⟨oc, od, .func (PySem.W.ksFn "__init__" qual (defArgs st) (defBody st) (defScope st) .none kV doc pm an (.ref cda) ct cc), osl⟩) (cod : PySem.W.codeIn K (.ref cda) qual = true)
    (bd : ∀ (s : Shared) (u v : Value), BindsTo s (PySem.W.ksFn "__init__" qual (defArgs st) (defBody st) (defScope st) .none kV doc pm an (.ref cda) ct cc) ⟨[u, v], []⟩ [("self", u), (par, v)]) :
    ErrTxt prog K qual st C D fI cc cda par fld :=
  ⟨tx, ⟨nm, q, N, bs, bm, sn, sub, ab, col, dd, k0, k1, k2, k3, k5, cls, rv⟩, sa, noN, iC, tC, kC, exC, veC, tyC, sup, mCD, Option.isSome_iff_exists.mp clD, ⟨cl, cld, csl, cell⟩, ⟨ccl, cdd, vs, ccs, file, tf, code, v2, hfile⟩, thp, top, ⟨oc, od, kV, doc, pm, an, ct, osl, fn, cod, bd⟩⟩
end DL

namespace DL
open PySem PySem.Spec PyProof.Rows L2
section
variable {C : Cn} {X : Cx} {cls : Nat → Addr} {W : WX} {a b c e : Expr} {δa δb δc : De} {pos p apos cpos : Pos}
/-! ### a ≤ b < c -/
theorem de_chain2 (ha : DO X cls W a δa) (hb : DO X cls W b δb) (hc : DO X cls W c δc) (hm : lastMarks [.LtE, .Lt] [b, c] = false := by with_unfolding_all rfl) : DE X cls W (.Compare a [.LtE, .Lt] [b, c] pos) (eChain oLe oLt δa δb δc) :=
  PE.weak (pe_chain or_le or_lt ha hb hc hm) fun _ _ _ h => x_chain ok_ord ok_ord h
theorem dt_chain2 (ha : DO X cls W a δa) (hb : DO X cls W b δb) (hc : DO X cls W c δc) (hm : lastMarks [.LtE, .Lt] [b, c] = false := by with_unfolding_all rfl) : DT X cls W (.Compare a [.LtE, .Lt] [b, c] pos) (tB (eChain oLe oLt δa δb δc)) :=
  PT.weak (pt_chain or_le or_lt ha hb hc hm) fun σ H Q ⟨Γ, S, ρ, G, m, p⟩ => by
    refine x_chain (W := W) (cls := cls) ok_ord ok_ord ⟨Γ, S, ρ, G, m, (Post.seq back_RB p).mono fun v H1 ⟨d, S1, ρ1, G1, m1, n1, r1, p1⟩ => ?_⟩
    obtain ⟨k, hk, p2⟩ := ofO_post p1
    cases d <;> try cases hk
    exact ⟨k, rep_bl.mp r1, p2.at m1 rfl⟩
/-! ### dict(pairs) -/
def pairsD : List D → Option (List (Key × D))
  | [] => some []
  | .tup [k, x] :: r => (keyD k).bind fun q => (pairsD r).map fun l => (q, x) :: l
  | _ => none
def mergeD (acc : List Key × List D) : List (Key × D) → List Key × List D
  | [] => acc
  | kx :: r => mergeD (dPut acc.1 acc.2 kx.1 kx.2) r
def dDict : D → Option D
  | .lst xs => (pairsD xs).map fun l => .dct (mergeD ([], []) l).1 (mergeD ([], []) l).2
  | _ => none
theorem pairs_rep {ρ : List Addr} {G H : Hp} (s : SubH C G H) : ∀ {xs : List D} {vs : List V} {l : List (Key × D)}, Reps C ρ G xs vs → pairsD xs = some l →
    ∃ (ps : List Addr) (us : List V), vs = ps.map V.ref ∧ Paired (fun p (kv : Key × V) => SqT C.K H p [kV kv.1, kv.2]) ps ((l.map Prod.fst).zip us) ∧ Reps C ρ G (l.map Prod.snd) us
  | [], _, l, h, e => by
    rw [pairsD] at e; cases e
    rw [h.inv0]
    exact ⟨[], [], rfl, Paired.nil, Reps.nil⟩
  | x :: r, _, l, h, e => by
    obtain ⟨v, vs, rfl, h1, h2⟩ := h.inv
    unfold pairsD at e
    split at e
    · cases ‹_ = []›
    · rename_i k y r' hr
      cases hr
      cases q : keyD k with
      | none => rw [q] at e; cases e
      | some kk =>
        rw [q] at e
        cases q2 : pairsD r with
        | none => rw [Option.bind_some, q2] at e; cases e
        | some l' =>
          rw [Option.bind_some, q2] at e; cases e
          obtain ⟨ps, us, rfl, pr, rr⟩ := pairs_rep s h2 q2
          obtain ⟨a, ws, rfl, t, rw'⟩ := rep_tup.mp h1
          obtain ⟨w1, ws1, rfl, g1, g2⟩ := rw'.inv
          obtain ⟨w2, ws2, rfl, g3, g4⟩ := g2.inv
          have := g4.inv0
          subst this
          have ek := keyD_v q g1
          subst ek
          exact ⟨a :: ps, w2 :: us, rfl, .cons (s.sqT t) pr, .cons g3 rr⟩
    · cases e
theorem merge_rep {ρ : List Addr} {G : Hp} : ∀ {l : List (Key × D)} {us : List V} {ks : List Key} {xs : List D} {vs : List V}, Reps C ρ G (l.map Prod.snd) us → ks.length = xs.length → Reps C ρ G xs vs →
    ∃ ws, mergeK (ks.zip vs) ((l.map Prod.fst).zip us) = (mergeD (ks, xs) l).1.zip ws ∧ (mergeD (ks, xs) l).1.length = (mergeD (ks, xs) l).2.length ∧ Reps C ρ G (mergeD (ks, xs) l).2 ws
  | [], us, ks, xs, vs, h, hl, r => ⟨vs, rfl, hl, r⟩
  | (k, x) :: l, us, ks, xs, vs, h, hl, r => by
    obtain ⟨u, us', rfl, h1, h2⟩ := Reps.inv (show Reps C ρ G (x :: l.map Prod.snd) us from h)
    obtain ⟨ws, e1, e2, e3⟩ := put_zip h1 r hl k
    obtain ⟨ws2, e4, e5, e6⟩ := merge_rep (l := l) (us := us') (ks := (dPut ks xs k x).1) (xs := (dPut ks xs k x).2) h2 e2 e3
    refine ⟨ws2, ?_, e5, e6⟩
    rw [← e1] at e4
    exact e4
theorem rc_dict : RC1 C (RF C) (fun xs H Q => ∃ (a : Addr) (ps : List Addr) (kvs : List (Key × V)), xs = [.ref a] ∧ SqL C.K H a (ps.map V.ref) ∧ Paired (fun p kv => SqT C.K H p [kV kv.1, kv.2]) ps kvs ∧
    ∀ p, H p = none → Q (.ref p) (upd H p (.dK (mergeK [] kvs)))) dDict := fun S ρ G H x d dx Q m rx e q => by
  cases dx <;> try cases e
  rename_i xs
  obtain ⟨a, vs, rfl, h1, r1⟩ := rx
  simp only [dDict] at e
  cases k : pairsD xs with
  | none => rw [k] at e; cases e
  | some l =>
    rw [k] at e; cases e
    obtain ⟨ps, us, rfl, pr, rr⟩ := pairs_rep m.sub r1 k
    obtain ⟨ws, e1, e2, e3⟩ := merge_rep (C := C) (ks := []) (xs := []) rr rfl Reps.nil
    refine ⟨a, ps, _, rfl, SqL.of h1, pr, fun p hp => ?_⟩
    obtain ⟨m', n', np, gp⟩ := m.new (o := .dK (mergeK [] ((l.map Prod.fst).zip us))) hp
    refine q (.ref p) ρ G _ m' n' ⟨p, rfl, np, hp, gp, ws, ?_, e2, e3⟩
    rw [upd_same]
    have e1 : mergeK [] ((l.map Prod.fst).zip us) = (mergeD ([], []) l).1.zip ws := e1
    rw [e1]
theorem df_dict (hg : Gl X "dict") (hm : X.mg "dict" = none) (hc : X.calm = true) (ha : DO X cls W a δa) (he : starEach [a] X.env = (false, eval a X.env) :: starEach [] X.env := by rfl) (hpl : (backTo pos (starEach [] X.env)).any (·.1) = false := by rfl) : DF X cls W (.Call (.Name "dict" p) [a] [] pos) (eUn dDict δa) :=
  x_c1 back_RF (pe_callTy (call_dictP hc) hg hm (by decide +kernel) (da1 ha he) (by decide) (by decide) he hpl) rc_dict
/-! ### d.get(k) -/
def dGet1 (d k : D) : Option D := match d, keyD k with
  | .dct ks xs, some q => some ((dGet ks xs q).getD .non)
  | _, _ => none
def eGet1 (a b : De) : De := fun Γ S => (a Γ S).bind fun x S1 => if isDct (deref S1 x) = true then (b Γ S1).bind fun y S2 => ofO (dGet1 (deref S2 x) y) S2 else .stuck
theorem de_dget1 (hu : X.A.units + 1 < cLine) (ha : DO X cls W a δa) (hb : DE X cls W b δb) (m : M1 X a "get" apos b cpos) : DE X cls W (.Call (.Attribute a "get" apos) [b] [] cpos) (eGet1 δa δb) :=
  PE.weak (pe_dget1 hu ha hb m) fun σ H Q ⟨Γ, S, ρ, G, m, p⟩ => by
    refine ⟨Γ, S, ρ, G, m, (Post.seq back_RS p).mono fun x H1 ⟨dx, S1, ρ1, G1, m1, n1, r1, p1⟩ => ?_⟩
    split at p1
    · rename_i hd
      obtain ⟨ad, rfl, isd⟩ := isDct_rt hd (m1.read r1)
      refine ⟨ad, rfl, isd, Γ, S1, ρ1, G1, m1, (Post.seq back_RS p1).mono fun y H2 ⟨dy, S2, ρ2, G2, m2, n2, r2, p2⟩ => ?_⟩
      obtain ⟨d, hd3, p4⟩ := ofO_post p2
      have rt3 := m2.read (RO.step (H1 := H2) n2 r1)
      unfold dGet1 at hd3
      split at hd3
      · rename_i ks xs q e1 e2
        rw [e1] at rt3
        obtain ⟨a3, vs, e3, h3, hl, rr⟩ := rt3
        cases e3
        obtain ⟨o, g, k⟩ := dget_rt h3 hl rr q
        have ey := keyD_v e2 r2
        subst ey
        refine ⟨o, g, ?_⟩
        cases z2 : dGet ks xs q with
        | some d2 =>
          rw [z2] at k hd3
          obtain ⟨v, rfl, rv⟩ := k
          cases hd3
          exact p4.at m2 rv
        | none =>
          rw [z2] at k hd3
          subst k
          cases hd3
          exact p4.at m2 (rep_non.mpr rfl)
      · cases hd3
    · exact p1.elim
end
/-! ### defs that run while an error is handled, and raise nothing -/
structure RoomX (k : Nat) (A : Around) : Prop where
  dp : A.depth + 3 * k + 5 < recursionLimit
  un : A.units + 16 * k + 200 < cLine
  gd : A.guards = some []
theorem RoomX.units {k : Nat} {A : Around} (r : RoomX k A) : A.units + 64 < cLine := by have := r.un; omega
theorem RoomX.u1 {k : Nat} {A : Around} (r : RoomX k A) : A.units + 1 < cLine := by have := r.un; omega
theorem RoomX.deeper {k : Nat} {A : Around} (r : RoomX (k + 1) A) (env : Env) : RoomX k (A.deeper env) :=
  ⟨by have := r.dp; show A.depth + 1 + 3 * k + 5 < _; omega, by have := r.un; show A.units + 3 + 16 * k + 200 < _; omega, r.gd⟩
theorem RoomX.less {j k : Nat} {A : Around} (r : RoomX k A) (h : j ≤ k) : RoomX j A := ⟨by have := r.dp; omega, by have := r.un; omega, r.gd⟩
theorem RoomG.x {k : Nat} {A : Around} (r : RoomG k A) : RoomX k A := ⟨r.dp, r.un, r.gd⟩
theorem RoomG.xm {k : Nat} {A : Around} (r : RoomG k A) (o : Option Value) : RoomX k (A.mark o) := ⟨r.dp, r.un, r.gd⟩
theorem RoomX.x {k : Nat} {A : Around} (r : RoomX k A) : RoomX k A := r
structure FnX (P : Program) (w : World) (K : PySem.W.Frag) (mg : Str → Option Value) (base : Heap) (k : Nat) (f : Addr) (fd : FuncData) (ps : List Str) (sp : Sp) : Prop where
  lng : ∀ vs H Q E, sp vs H Q E → vs.length = ps.length
  goes : ∀ (A : Around) (o : List Env) (s : Shared) (H : Hp) (ar : Args) (us : List Value) (vs : List V) (Q : VK) (E : XK), RoomX k A → Env0 P w K mg base A o s H → BindsTo s fd ar (ps.zip us) → Vals vs us → sp vs H Q E →
    codeAny (model P w) A (.call (.ref f) ar) (CR (L2.CX P w) o P w H s Q E) s
/-- the context of such a def's body -/
def cxX (CX : CXT) (P : Program) (w : World) (K : PySem.W.Frag) (mg : Str → Option Value) (base : Heap) (N : List Str) (qual : Str) (scope : Scope) (f : Addr) (cd : Value) (A : Around) (outer : List Env) (s : Shared) (H : Hp) (E : XK) : Cx :=
  { cxOf CX P w K mg base N qual scope f cd A outer s H E with calm := false }
section
variable {P : Program} {w : World} {K : PySem.W.Frag} {mg : Str → Option Value} {base : Heap} {cls : Nat → Addr}
theorem fnX_stuck {k : Nat} {f : Addr} {fd : FuncData} {ps : List Str} {C : Cn} {F : List D → List D → Res D} (h : ∀ ds S, F ds S = .stuck) : FnX P w K mg base k f fd ps (spD C ps.length F) := by
  have no : ∀ vs H Q E, ¬ spD C ps.length F vs H Q E := fun vs H Q E h' => by
    obtain ⟨S, ρ, G, ds, _, _, _, z⟩ := h'
    rw [h] at z; exact z
  exact ⟨fun vs H Q E h => absurd h (no vs H Q E), fun A o s H ar us vs Q E _ _ _ _ h => absurd h (no vs H Q E)⟩
theorem start_x {CX : CXT} {N ps : List Str} {qual : Str} {scope : Scope} {f : Addr} {cd : Value} {A : Around} {outer : List Env} {s s1 : Shared} {H : Hp} {E : XK} {us : List Value} {vs : List V}
    (S : FnScope N ps scope) (e0 : Env0 P w K mg base A outer s H) (hl : vs.length = ps.length) (r : Vals vs us)
    (x : InCallC s s.heap.objs.size (bindL (envOfC qual scope s.heap.objs.size f cd).kindOf (ps.zip us) fun _ => none) (cellsFrom (s.heap.objs.size + 1) scope.names []) (bindC (envOfC qual scope s.heap.objs.size f cd).kindOf (ps.zip us) fun _ => none) s1) :
    Inv (cxX CX P w K mg base N qual scope f cd A outer s H E) [] (L2.start N vs) H s1 := by
  have e1 : Env0 P w K mg base { A with handled := none } outer s H := ⟨e0.frames, e0.mod, e0.bs, e0.bsz, e0.funs, e0.frf, e0.hok, e0.bare⟩
  have J := inv_start (CX := CX) (E := E) S (A := { A with handled := none }) rfl e1 hl r x
  exact ⟨⟨J.ok.mod, J.ok.kind, J.ok.glob, J.ok.blt, J.ok.above, J.ok.inj, J.ok.has, J.ok.cab, (fun z => Bool.noConfusion (show false = true from z)), J.ok.frames, J.ok.stk, J.ok.exf, J.ok.bs, J.ok.bsz, J.ok.noex, J.ok.exfs, J.ok.funs, J.ok.frf⟩,
    J.os, J.bare, J.base, J.loc, J.cell, J.free, J.freeC, J.pin, J.hok, J.len⟩
theorem defX_ok {x qual : Str} {st : Stmt} {f : Addr} {fd : FuncData} {N ps : List Str} {k : Nat} {δ : Ds} (F : Fun K x qual st f fd) (Sc : FnScope N ps (defScope st))
    (hbody : ∀ (cdv : Value) (A : Around) (outer : List Env) (s : Shared) (H : Hp) (E : XK), RoomX k (A.deeper (envOfC qual (defScope st) s.heap.objs.size f cdv)) →
      DSs (cxX (L2.CX P w) P w K mg base N qual (defScope st) f cdv A outer s H E) cls (fun c d _ H => E c d H) (defBody st) δ) : FnX P w K mg base (k + 1) f fd ps (spD ⟨K, cls⟩ ps.length (bodyRun N.length δ)) := by
  obtain ⟨oc, od, kV, doc, pm, an, cdv, ct, osl, rfl, lk, hcd⟩ := F.ex
  have ln : ∀ vs H Q E, spD ⟨K, cls⟩ ps.length (bodyRun N.length δ) vs H Q E → vs.length = ps.length := fun vs H Q E h => by obtain ⟨_, _, _, _, _, _, h, _⟩ := h; exact h
  refine ⟨ln, fun A o s0 H ar us vs Q E rm e0 bd rv h => ?_⟩
  have hl := ln _ _ _ _ h
  have KX : K.In s0.heap := e0.mod.kin.keeps fun b o e => (e0.bs b o e).1
  have lim : s0.heap.NoLimit := e0.mod.nolimit.keeps fun b o e => (e0.bs b o e).1
  have hkind : ∀ y ∈ ps.zip us, (defScope st).names.lookup y.1 = some .local ∨ ((defScope st).names.lookup y.1 = some .cell ∧ ((cellsFrom (s0.heap.objs.size + 1) (defScope st).names []).lookup y.1).isSome = true) := fun ⟨n, v⟩ hy => by
    rcases Sc.par n (List.of_mem_zip hy).1 with q | q
    · exact .inl q
    · exact .inr ⟨q, PySem.W.cellsFrom_some _ _ _ (.inl q)⟩
  refine codeAny_call_function (by have := rm.dp; omega) (KX _ _ lk) rfl Sc.co Sc.gen rfl (PySem.W.codeRec_of KX hcd) (bd _ _ _ _ ?_)
  refine wpAny_newFunctionEnv_cells Sc.kind hkind fun env he s1 xc => ?_
  subst he
  refine ⟨lim.keeps xc.toInCall.keep, codeAny_func ?_⟩
  have I : Inv (cxX (L2.CX P w) P w K mg base N qual (defScope st) f cdv A o s0 H E) [] (L2.start N vs) H s1 := start_x Sc e0 hl rv xc
  have hq : tS ⟨K, cls⟩ (fun c d _ H => E c d H) δ { nx := fun _ H' => Q .non H', rt := Q } (L2.start N vs) H := by
    obtain ⟨S, ρ, G, ds, m, r, hl, h⟩ := h
    refine ⟨⟨ρ, G, H, G, ρ, H⟩, _, S, ρ, G, ⟨start_mem m r, .refl, fun i d a h1 h2 => ?_, .refl, List.prefix_refl _, .refl⟩, ?_⟩
    · exfalso
      have hm := List.mem_of_getElem? h1
      rcases List.mem_append.mp hm with z | z
      · obtain ⟨_, _, e⟩ := List.mem_map.mp z; cases e
      · cases (List.eq_of_mem_replicate z)
    · unfold bodyRun at h
      cases q : δ (ds.map Sl.val ++ List.replicate (N.length - ds.length) Sl.non) S with
      | next Γ S' => rw [q] at h; exact fun ρ' G' H' σ' s' => h .non ρ' G' H' s'.mem.toS s'.nx (rep_non.mpr rfl)
      | ret d S' => rw [q] at h; exact fun v ρ' G' H' m' n' _ r' => h v ρ' G' H' m' n' r'
      | exc e Γ S' => rw [q] at h; exact fun c dx ρ' G' H' σ' s' er => h c dx ρ' G' H' s'.mem.toS s'.nx er
      | brk _ _ => rw [q] at h; exact h.elim
      | cont _ _ => rw [q] at h; exact h.elim
      | stuck => rw [q] at h; exact h.elim
  refine wpAny_mono ((hbody cdv A o s0 H E (rm.deeper _)).run [] s1 (L2.start N vs) H _ I hq) (fun fl s' hs => ?_) fun e s' hs => hs
  have fin : ∀ {σ' : L2.St} {H' : Hp} {v : V} {u : Value}, Inv (cxX (L2.CX P w) P w K mg base N qual (defScope st) f cdv A o s0 H E) [] σ' H' s' → L2.RelV v u → Q v H' → CE o P w H s0 Q u s' :=
    fun {σ' H' v u} J rv q => ⟨v, H', J.os, J.bare, J.base, J.hok, rv, q⟩
  cases fl with
  | ret u =>
    obtain ⟨v, σ', H', J, rv, q⟩ := hs
    exact fin J rv q
  | next =>
    obtain ⟨σ', H', J, q⟩ := hs
    exact fin (v := V.non) (u := Value.none) J rfl q
  | brk =>
    obtain ⟨_, _, _, q⟩ := hs
    exact False.elim q
  | cont =>
    obtain ⟨_, _, _, q⟩ := hs
    exact False.elim q
end
section
variable {X : Cx} {cls : Nat → Addr} {W : WX} {k : Nat} {f : Addr} {fd : FuncData} {ps : List Str} {x : Str} {p pos : Pos} {e a : Expr} {es : List Expr} {α : Da} {δa : De} {F : List D → List D → Res D} {sp : Sp}
theorem goesX {pins : List (Addr × Obj)} {σ : L2.St} {H : Hp} {s : Shared} {Q : VK} {E : XK} {us : List Value} {vs : List V} (Fn : FnX X.prog X.w X.K X.mg X.base k f fd ps sp) (rm : RoomX k X.A) (bd : Binds X.K fd ps []) (pa : PassesAt (L2.CX X.prog X.w) X σ E)
    (I : Inv X pins σ H s) (rv : Vals vs us) (h : sp vs H Q E) : wpAny (model X.prog X.w) X.A (call (.ref f) us) (EP X pins σ Q) X.xe s := by
  have b2 : BindsTo s fd ⟨us, []⟩ (ps.zip us) := by
    have z := bd s us I.kIn (by rw [List.append_nil, ← rv.length]; exact Fn.lng _ _ _ _ h)
    rwa [List.append_nil] at z
  refine wpAny_call (codeAny_mono (Fn.goes X.A X.stack s H ⟨us, []⟩ us vs Q E rm I.env0 b2 rv h) ?_)
  rintro (er | ⟨u⟩ | _ | _ | _) s2 hq
  all_goals first | exact pa pins H s er s2 I hq | exact I.after hq | exact hq.elim
theorem de_callX (Fn : FnX X.prog X.w X.K X.mg X.base k f fd ps (spD ⟨X.K, cls⟩ ps.length F)) (tk : Takes X W) (rm : RoomX k X.A) (hg : Gl X x) (hm : X.mg x = some (.ref f)) (hk : PySem.W.keepIn X.K (.ref f) = true) (bd : Binds X.K fd ps [])
    (ha : DA X cls W (e :: es) α) (hal : ALen α ps.length) (hdb : (x == ("__debug__" : Str)) = false := by decide) (he : starEach (e :: es) X.env = (false, eval e X.env) :: starEach es X.env := by rfl) (pl : (backTo pos (starEach es X.env)).any (·.1) = false := by rfl) :
    DE X cls W (.Call (.Name x p) (e :: es) [] pos) (eCall F α) := ⟨fun pins s σ H Q I h => by
  refine wpAny_Call_Name_kw (ld_glob I hg hm ?_ hdb)
  exact PySem.W.callWith_K (h₀ := X.base) I.ok.mod.kin hk (thn (ha.run pos pins s σ H _ I (exG tk hal h)) fun us s1 ⟨vs, H1, I1, rv, q⟩ => ⟨I1.kIn, goesX Fn rm bd (passAt tk σ) I1 rv q⟩) he pl⟩
theorem spD_re {K : PySem.W.Frag} {cls' : Nat → Addr} (hc : ∀ n, cls' (n + 3) = cls (n + 3)) {np : Nat} {vs : List V} {H : Hp} {Q : VK} {E : XK} (h : spD ⟨K, cls'⟩ np F vs H Q E) : spD ⟨K, cls⟩ np F vs H Q E := by
  obtain ⟨S, ρ, G, ds, m, r, hl, h⟩ := h
  have hc' : ∀ n, cls (n + 3) = cls' (n + 3) := fun n => (hc n).symm
  refine ⟨S, ρ, G, ds, Mem.re (C := ⟨K, cls'⟩) (C' := ⟨K, cls⟩) rfl hc' rfl m, Reps.re (C := ⟨K, cls'⟩) (C' := ⟨K, cls⟩) rfl hc' _ _ r, hl, ?_⟩
  split at h
  · exact fun v ρ' G' H' m' n' r' => h v ρ' G' H' (Mem.re (C := ⟨K, cls⟩) (C' := ⟨K, cls'⟩) rfl hc rfl m') n' (Rep.re (C := ⟨K, cls⟩) (C' := ⟨K, cls'⟩) rfl hc _ _ r')
  · refine fun c dx ρ' G' H' m' n' r' => h c dx ρ' G' H' (Mem.re (C := ⟨K, cls⟩) (C' := ⟨K, cls'⟩) rfl hc rfl m') n' ?_
    obtain ⟨e1, e2, e3⟩ := r'
    refine ⟨by rw [e1]; exact congrArg _ (hc' _), e2, fun z => ?_⟩
    obtain ⟨d, vs, q1, q2, q3, q4⟩ := e3 z
    exact ⟨d, vs, q1, q2, q3, Reps.re (C := ⟨K, cls⟩) (C' := ⟨K, cls'⟩) rfl hc _ _ q4⟩
  · exact h
theorem FnX.re {P : Program} {w : World} {K : PySem.W.Frag} {mg : Str → Option Value} {base : Heap} {cls' : Nat → Addr} {np : Nat} (Fn : FnX P w K mg base k f fd ps (spD ⟨K, cls⟩ np F)) (hc : ∀ n, cls' (n + 3) = cls (n + 3)) : FnX P w K mg base k f fd ps (spD ⟨K, cls'⟩ np F) :=
  ⟨fun vs H Q E h => Fn.lng vs H Q E (spD_re hc h), fun A o s H ar us vs Q E r e b v h => Fn.goes A o s H ar us vs Q E r e b v (spD_re hc h)⟩
/-! ### repr of anything -/
def dReprA (d : D) : Option D := match d with
  | .non => some (.str "None")
  | .bl b => some (.str (if b then "True" else "False"))
  | .int i => if i.natAbs.log2 < 1920 then some (.str (toString i)) else none
  | .str z => if (reprText z).length ≤ sizeLine then some (.str (reprText z)) else none
  | _ => dRepr d
def rReprG (K : PySem.W.Frag) : List V → Hp → VK → Prop := fun xs H Q => ∃ a q, xs = [.ref a] ∧ Dp K H (.ref a) q ∧ q.showable = true ∧ q.hasDict = false ∧ q.depth ≤ 180 ∧ q.shown.length ≤ sizeLine ∧ Q (.str q.shown) H
def rReprA (K : PySem.W.Frag) : List V → Hp → VK → Prop := fun xs H Q => (xs = [.non] ∧ Q (.str "None") H) ∨ (∃ b, xs = [.bl b] ∧ Q (.str (if b then "True" else "False")) H) ∨ (∃ i, xs = [.int i] ∧ i.natAbs.log2 < 1920 ∧ Q (.str (toString i)) H) ∨ (∃ z, xs = [.str z] ∧ (reprText z).length ≤ sizeLine ∧ Q (.str (reprText z)) H) ∨ rReprG K xs H Q
theorem call_reprA (hu : X.A.units + 190 < cLine) (gd : X.A.guards = some []) : CallR X (.builtin "repr") (rReprA X.K) := by
  intro pins s σ H xs us Q I r h
  rcases h with ⟨rfl, q⟩ | ⟨b, rfl, q⟩ | h | ⟨z, rfl, hz, q⟩ | h
  · obtain ⟨u, rfl, ru⟩ := vals1 r
    obtain rfl : u = Value.none := ru
    exact PySem.P.repr_of_none ⟨.str _, H, I.tok _, ⟨_, rfl⟩, q⟩
  · obtain ⟨u, rfl, ru⟩ := vals1 r
    obtain rfl : u = Value.bool b := ru
    exact PySem.P.repr_of_bool ⟨.str _, H, I.tok _, ⟨_, rfl⟩, q⟩
  · exact SkE.call_repr_int pins s σ H xs us Q I r h
  · obtain ⟨u, rfl, t, rfl⟩ := vals1 r
    exact PySem.P.repr_of_str ⟨.str _, H, I.tok _, ⟨_, rfl⟩, q⟩ hz
  · exact call_reprG hu gd pins s σ H xs us Q I r h
theorem rc_reprA {C : Cn} : RC1 C (RS C) (rReprA C.K) dReprA := fun S ρ G H x d dx Q m rx e q => by
  unfold dReprA at e
  split at e
  · cases e
    rw [rt_non] at rx
    subst rx
    exact .inl ⟨rfl, q _ _ _ _ m .refl (rep_str.mpr rfl)⟩
  · rename_i b
    cases e
    rw [rt_bl] at rx
    subst rx
    exact .inr (.inl ⟨b, rfl, q _ _ _ _ m .refl (rep_str.mpr rfl)⟩)
  · rename_i i
    split at e
    · rename_i hi
      cases e
      rw [rt_int] at rx
      subst rx
      exact .inr (.inr (.inl ⟨i, rfl, hi, q _ _ _ _ m .refl (rep_str.mpr rfl)⟩))
    · cases e
  · rename_i z
    split at e
    · rename_i hi
      cases e
      rw [rt_str] at rx
      subst rx
      exact .inr (.inr (.inr (.inl ⟨z, rfl, hi, q _ _ _ _ m .refl (rep_str.mpr rfl)⟩)))
    · cases e
  · exact .inr (.inr (.inr (.inr (rc_repr S ρ G H x d dx Q m rx e q))))
theorem de_reprA {k : Nat} (rm : RoomX k X.A) (hg : Gl X "repr") (hm : X.mg "repr" = none) (ha : DO X cls W a δa) (he : starEach [a] X.env = (false, eval a X.env) :: starEach [] X.env := by rfl) (hpl : (backTo pos (starEach [] X.env)).any (·.1) = false := by rfl) : DE X cls W (.Call (.Name "repr" p) [a] [] pos) (eUn dReprA δa) :=
  x_c1 back_RS (pe_callB (call_reprA (by have := rm.un; omega) rm.gd) hg hm (by decide +kernel) (da1 ha he) (by decide) (by decide) he hpl) rc_reprA
@[simp] theorem dReprA_lst (xs : List D) : dReprA (.lst xs) = dRepr (.lst xs) := Eq.trans rfl rfl
@[simp] theorem dReprA_tup (xs : List D) : dReprA (.tup xs) = dRepr (.tup xs) := Eq.trans rfl rfl
end
end DL

namespace DL
open PySem PySem.Spec PyProof.Rows L2
/-! ### a dict is locked while it is walked -/
section
variable {C : Cn} {W : WX} {en : Ent} {Γ : List Sl} {S : List D} {ρ ρ' : List Addr} {G G' H H' : Hp} {σ : L2.St} {d : Addr} {kvs : List (Key × V)} {od : Obj}
theorem noTE_frz {a : Addr} {o : Obj} {u : HO} (h : H a = some (.frz o u)) : NoTE (H a) := by rw [h]; exact ⟨fun _ z => (nomatch z), fun _ z => (nomatch z)⟩
theorem Mem.other (m : Mem C Γ S ρ G H σ) {o : HO} (gd : G d = some (.dK kvs)) (ho : EqK (.dK kvs) o) (ht : NoTE (H d)) : Mem C Γ S ρ G (upd H d o) σ where
  sub := ⟨⟨fun b u h => by
    by_cases z : b = d
    · subst z; rw [gd] at h; cases h; exact ⟨o, upd_same, ho⟩
    · rw [upd_ne z]; exact m.sub.at_ b u h⟩, fun i => (m.sub.tab i).upd ht, m.sub.codes.upd ht, m.sub.notb⟩
  val := m.val
  own := fun i x h => by
    obtain ⟨b, e, r, g, n⟩ := m.own i x h
    exact ⟨b, e, r.at (fun z => by rw [z, gd] at g; cases g), g, n⟩
  inj := m.inj
  sto := fun i x h => by
    obtain ⟨b, e, r⟩ := m.sto i x h
    have g := m.stG b (List.mem_of_getElem? e)
    exact ⟨b, e, r.at (fun z => by rw [z, gd] at g; cases g)⟩
  stG := m.stG
  len := m.len
  nd := m.nd
  wid := m.wid
  xcp := m.xcp
theorem Mem.lock (m : Mem C Γ S ρ G H σ) (hd : H d = some (.dK kvs)) (gd : G d = some (.dK kvs)) : Mem C Γ S ρ G (upd H d (.frz od (.dK kvs))) σ := m.other gd (.inr ⟨kvs, od, rfl, rfl⟩) (noTE_dK hd)
theorem Mem.unlock (m : Mem C Γ S ρ G H σ) (hd : H d = some (.frz od (.dK kvs))) (gd : G d = some (.dK kvs)) : Mem C Γ S ρ G (upd H d (.dK kvs)) σ := m.other gd (.inl rfl) (noTE_frz hd)
theorem Nx.unlock {E E' : Hp} (n : Nx ρ G E' ρ' G' H') (hE : ∀ a, a ≠ d → E' a = E a) (h1 : E' d = none ↔ E d = none) (h2 : ∀ o, (∀ ps, o ≠ .tbl ps) → E d = some o → o = .dK kvs) : Nx ρ G E ρ' G' (upd H' d (.dK kvs)) where
  pre := n.pre
  ext := n.ext
  new := fun a o h => by
    rcases n.new a o h with z | z
    · exact .inl z
    · by_cases y : a = d
      · subst y; exact .inr (h1.mp z)
      · rw [hE a y] at z; exact .inr z
  keep := fun a o t h p => by
    by_cases y : a = d
    · subst y; rw [upd_same, h2 o t h]
    · rw [upd_ne y]; exact n.keep a o t (by rw [hE a y]; exact h) p
  live := fun a h => by
    by_cases y : a = d
    · subst y; rw [upd_same] at h; cases h
    · rw [upd_ne y] at h; have := n.live a h; rw [hE a y] at this; exact this
  fre := fun a h => by
    rcases n.fre a h with z | z
    · exact .inl z
    · by_cases y : a = d
      · subst y; exact .inr (h1.mp z)
      · rw [hE a y] at z; exact .inr z
theorem Nx.lock {E E' : Hp} (n : Nx ρ G E ρ' G' H) (hE : ∀ a, a ≠ d → E' a = E a) (h1 : E' d = none ↔ E d = none) (h2 : ∀ o, (∀ ps, o ≠ .tbl ps) → E' d = some o → o = .frz od (.dK kvs)) : Nx ρ G E' ρ' G' (upd H d (.frz od (.dK kvs))) where
  pre := n.pre
  ext := n.ext
  new := fun a o h => by
    rcases n.new a o h with z | z
    · exact .inl z
    · by_cases y : a = d
      · subst y; exact .inr (h1.mpr z)
      · exact .inr (by rw [hE a y]; exact z)
  keep := fun a o t h p => by
    by_cases y : a = d
    · subst y; rw [upd_same, h2 o t h]
    · rw [upd_ne y]; exact n.keep a o t (by rw [← hE a y]; exact h) p
  live := fun a h => by
    by_cases y : a = d
    · subst y; rw [upd_same] at h; cases h
    · rw [upd_ne y] at h; have := n.live a h; rw [hE a y]; exact this
  fre := fun a h => by
    rcases n.fre a h with z | z
    · exact .inl z
    · by_cases y : a = d
      · subst y; exact .inr (h1.mpr z)
      · exact .inr (by rw [hE a y]; exact z)
/-- the entry, as it is while d is locked -/
theorem ent_lock (s : SI C en Γ S ρ G H σ) (hd : H d = some (.dK kvs)) (gd : G d = some (.dK kvs)) (od : Obj) : ∃ en' : Ent, SI C en' Γ S ρ G (upd H d (.frz od (.dK kvs))) σ ∧
    (∀ Γ' S' ρ' G' H' σ', SI C en' Γ' S' ρ' G' H' σ' → H' d = some (.frz od (.dK kvs)) ∧ SI C en Γ' S' ρ' G' (upd H' d (.dK kvs)) σ') ∧
    (∀ S' ρ' G' H', MemS C S' ρ' G' H' → Nx en'.ρ en'.G en'.H ρ' G' H' → Sub en'.B G' ∧ Old en'.F H' → H' d = some (.frz od (.dK kvs)) ∧ MemS C S' ρ' G' (upd H' d (.dK kvs)) ∧ Nx en.ρ en.G en.H ρ' G' (upd H' d (.dK kvs)) ∧ Sub en.B G' ∧ Old en.F (upd H' d (.dK kvs))) := by
  have dρ : d ∉ ρ := fun z => by have := s.mem.stG d z; rw [gd] at this; cases this
  have dρ0 : d ∉ en.ρ := fun z => dρ (s.nx.pre.subset z)
  have e4 : ∀ o, (∀ ps, o ≠ .tbl ps) → en.H d = some o → o = .dK kvs := fun o t h => by
    have := s.nx.keep d o t h dρ0
    rw [hd] at this; cases this; rfl
  obtain ⟨EH, e1, e2, e3⟩ : ∃ EH : Hp, (∀ a, a ≠ d → EH a = en.H a) ∧ (EH d = none ↔ en.H d = none) ∧ ∀ o, (∀ ps, o ≠ .tbl ps) → EH d = some o → o = .frz od (.dK kvs) := by
    cases q : en.H d with
    | none => exact ⟨en.H, fun _ _ => rfl, ⟨fun _ => rfl, fun _ => q⟩, fun o _ h => by rw [q] at h; cases h⟩
    | some o =>
      by_cases t : ∃ ps, o = .tbl ps
      · obtain ⟨ps, rfl⟩ := t
        exact ⟨en.H, fun _ _ => rfl, ⟨fun h => (by rw [q] at h; cases h), fun h => (by cases h)⟩, fun o t h => by rw [q] at h; cases h; exact absurd rfl (t ps)⟩
      · exact ⟨upd en.H d (.frz od (.dK kvs)), fun a h => upd_ne h, ⟨fun h => (by rw [upd_same] at h; cases h), fun h => (by cases h)⟩, fun o _ h => by rw [upd_same] at h; cases h; rfl⟩
  have oldb : ∀ H', Old (upd H d (.frz od (.dK kvs))) H' → Old en.F (upd H' d (.dK kvs)) := fun H' o a ob u h => by
    have h3 := s.old a ob u h
    have y : a ≠ d := fun z => by rw [z, hd] at h3; cases h3
    rw [upd_ne y]
    exact o a ob u (by rw [upd_ne y]; exact h3)
  refine ⟨⟨en.ρ, en.G, EH, G, ρ, upd H d (.frz od (.dK kvs))⟩, ⟨s.mem.lock hd gd, s.nx.lock e1 e2 e3, fun i x a h1 h2 => ?_, .refl, List.prefix_refl _, .refl⟩, fun Γ' S' ρ' G' H' σ' s' => ?_, fun S' ρ' G' H' m n o => ?_⟩
  · have := s.frs i x a h1 h2
    by_cases y : a = d
    · subst y; exact e2.mpr this
    · show EH a = none; rw [e1 a y]; exact this
  · have hd' : H' d = some (.frz od (.dK kvs)) := s'.old d od _ upd_same
    have gd' : G' d = some (.dK kvs) := s'.base _ _ gd
    exact ⟨hd', s'.mem.unlock hd' gd', s'.nx.unlock e1 e2 e4, fun i x a h1 h2 => by
      have := s'.frs i x a h1 h2
      by_cases y : a = d
      · subst y; exact e2.mp this
      · rw [← e1 a y]; exact this, s.base.trans s'.base, s.basr.trans s'.basr, oldb _ s'.old⟩
  · have hd' : H' d = some (.frz od (.dK kvs)) := o.2 d od _ upd_same
    have gd' : G' d = some (.dK kvs) := o.1 _ _ gd
    exact ⟨hd', m.unlock hd' gd', n.unlock e1 e2 e4, s.base.trans o.1, oldb _ o.2⟩
theorem post_lock {Dn : Ends} {u : HO} {en' : Ent} (hu : u = .dK kvs)
    (b1 : ∀ Γ' S' ρ' G' H' σ', SI C en' Γ' S' ρ' G' H' σ' → H' d = some (.frz od (.dK kvs)) ∧ SI C en Γ' S' ρ' G' (upd H' d (.dK kvs)) σ')
    (b2 : ∀ S' ρ' G' H', MemS C S' ρ' G' H' → Nx en'.ρ en'.G en'.H ρ' G' H' → Sub en'.B G' ∧ Old en'.F H' → H' d = some (.frz od (.dK kvs)) ∧ MemS C S' ρ' G' (upd H' d (.dK kvs)) ∧ Nx en.ρ en.G en.H ρ' G' (upd H' d (.dK kvs)) ∧ Sub en.B G' ∧ Old en.F (upd H' d (.dK kvs))) :
    ∀ {o : Out}, (∀ e Γ S, o ≠ .exc e Γ S) → PostS C W en Dn o → PostS C W en' ⟨fun σ' H' => H' d = some (.frz od u) ∧ Dn.nx σ' (upd H' d u), fun v H' => H' d = some (.frz od u) ∧ Dn.rt v (upd H' d u), fun σ' H' => H' d = some (.frz od u) ∧ Dn.bk σ' (upd H' d u), fun σ' H' => H' d = some (.frz od u) ∧ Dn.ct σ' (upd H' d u)⟩ o
  | .next Γ S, _, q => fun ρ G H σ s => by subst hu; obtain ⟨x, y⟩ := b1 _ _ _ _ _ _ s; exact ⟨x, q ρ G _ σ y⟩
  | .brk Γ S, _, q => fun ρ G H σ s => by subst hu; obtain ⟨x, y⟩ := b1 _ _ _ _ _ _ s; exact ⟨x, q ρ G _ σ y⟩
  | .cont Γ S, _, q => fun ρ G H σ s => by subst hu; obtain ⟨x, y⟩ := b1 _ _ _ _ _ _ s; exact ⟨x, q ρ G _ σ y⟩
  | .ret d S, _, q => fun v ρ G H m n o r => by subst hu; obtain ⟨x, y, z, t, w⟩ := b2 _ _ _ _ m n o; exact ⟨x, q v ρ G _ y z ⟨t, w⟩ r⟩
  | .exc e Γ S, h, _ => absurd rfl (h e Γ S)
  | .stuck, _, q => q
end
end DL

namespace DL
open PySem PySem.Spec PyProof.Rows L2
/-! ### for x in d -/
def iK (i : Nat) : Da := fun Γ S => match Γ[i]? with
  | some (.val (.dct ks _)) => .ok (ks.map keyK) S
  | _ => .stuck
def Lk (i : Nat) (σ : L2.St) (H : Hp) : Prop := ∃ d od kvs, σ[i]? = some (some (V.ref d)) ∧ H d = some (.frz od (.dK kvs))
theorem PS.or {X : Cx} {e : Stmt} {t t' : TS} (h : PS X e t) (h' : PS X e t') : PS X e (fun D σ H => t D σ H ∨ t' D σ H) := ⟨fun pins s σ H D I k => by
  rcases k with k | k
  · exact h.run pins s σ H D I k
  · exact h'.run pins s σ H D I k⟩
section
variable {X : Cx} {cls : Nat → Addr} {W : WX} {tg : Expr} {x : Str} {p0 pos : Pos}
theorem src_keys {C : Cn} {d : Addr} {od : Obj} {kvs : List (Key × V)} {ks : List Key} {vs : List V} {ρ0 : List Addr} {G0 H0 : Hp} (h : H0 d = some (.frz od (.dK kvs))) (e : kvs = ks.zip vs) (l : ks.length = vs.length) : SrcOk C (Itk d od kvs) (ks.map keyK) ρ0 G0 H0 where
  go := fun S ρ G H i m s _ o hi => ⟨o d od _ h, by rw [e, List.length_zip, ← l, Nat.min_self]; simpa using hi⟩
  yld := fun S ρ G H i x H' d2 m s pr o hd y => by
    obtain ⟨rfl, k, v, hk, rfl⟩ := y
    rw [e, List.getElem?_zip_eq_some] at hk
    rw [List.getElem?_map, hk.1] at hd
    cases hd
    exact ⟨G, m, .refl, keyK_rep k⟩
  stop := fun S ρ G H m s _ o => ⟨o d od _ h, by rw [e, List.length_zip, ← l, Nat.min_self]; simp⟩
theorem pi_k (i : Nat) (hN : X.N[i]? = some x := by rfl) (hv : Vis X.env.scope x := by first | exact Or.inl rfl | exact Or.inr (Or.inl rfl) | exact Or.inr (Or.inr rfl)) (hd : (x == ("__debug__" : Str)) = false := by decide)
    (hcd : (x == ("__classdict__" : Str)) = false := by decide) : PI X tg (.Name x p0) (fun σ H R => Lk i σ H ∧ tI ⟨X.K, cls⟩ W (iK i) σ H R) := PI.weak (pi_keys (pv i hN hv hd hcd)) fun σ H R ⟨⟨d, od, kvs, e, hl⟩, Γ, S, ρ, G, m, q⟩ => by
  unfold iK at q
  cases z : Γ[i]? with
  | none => rw [z] at q; exact q.elim
  | some sl =>
    rw [z] at q
    cases sl with
    | val dv =>
      cases dv with
      | dct ks xs =>
        obtain ⟨v, e1, r⟩ := m.val i _ z
        rw [e] at e1; cases e1
        rw [Rep] at r
        obtain ⟨d', vs, e2, g, hl2, rr⟩ := r
        cases e2
        have hk := m.sub.dk g
        rcases hk with hk | ⟨ob, hk⟩
        · rw [hl] at hk; cases hk
        · rw [hl] at hk; cases hk
          refine ⟨_, e, d, od, rfl, .inl ⟨_, hl, q _ ρ G H m .refl (src_keys hl rfl (hl2.trans rr.length))⟩⟩
      | _ => exact q.elim
    | _ => exact q.elim
/-- a loop's core: what is walked is had by a reading of the kind of DI's -/
theorem for_core {ι : Da} {p : Pat} {kl : List Nat} {β : Ds} {en : Ent} {Γ : List Sl} {S : List D} {ρ : List Addr} {G H : Hp} {σ : L2.St} {Dn : Ends} (s : SI ⟨X.K, cls⟩ en Γ S ρ G H σ) (q : PostS ⟨X.K, cls⟩ W en Dn (sFor ι p kl β Γ S)) :
    tFor (tI ⟨X.K, cls⟩ W ι) (p.g X.K) (tS ⟨X.K, cls⟩ W β) Dn σ H := ⟨Γ, S, ρ, G, s.mem, by
  unfold sFor at q
  cases z : ι Γ S with
  | exc x S1 => rw [z] at q; exact fun cls' dx ρ1 G1 H1 m n c => q cls' dx ρ1 G1 H1 σ (s.step m n) c
  | stuck => rw [z] at q; exact q.elim
  | ok xs S1 =>
    rw [z] at q
    simp only [after_ok] at q
    intro J ρ1 G1 H1 m1 n1 sk
    have s1 := s.step m1 n1
    have q1 := q.rebase (B := G1) (R := ρ1) (F := H1) s1.base s1.basr s1.old
    refine ⟨fun i m σ H => m = xs.length - i ∧ i ≤ xs.length ∧ ∃ Γ S ρ G, SI ⟨X.K, cls⟩ { en with B := G1, R := ρ1, F := H1 } Γ S ρ G H σ ∧ PostS ⟨X.K, cls⟩ W { en with B := G1, R := ρ1, F := H1 } Dn (forD p kl β (xs.drop i) Γ S),
      ⟨xs.length, by omega, Nat.zero_le _, Γ, S1, ρ1, G1, s1.to, q1⟩, fun i m σ H ⟨hm, hi, Γ, S, ρ, G, s, q⟩ => ?_⟩
    by_cases hlt : i < xs.length
    · rw [List.drop_eq_getElem_cons hlt] at q
      refine .inr ⟨sk.go S ρ G H i s.mem.toS s.base s.basr s.old hlt, fun σ' H' => ∃ Γ S ρ G, SI ⟨X.K, cls⟩ { en with B := G1, R := ρ1, F := H1 } Γ S ρ G H' σ' ∧ PostS ⟨X.K, cls⟩ W { en with B := G1, R := ρ1, F := H1 } Dn (forD p kl β (xs.drop (i + 1)) Γ S),
        fun σ' H' n => ⟨xs.length - (i + 1), by omega, rfl, hlt, n⟩, fun x H' y => ?_⟩
      obtain ⟨G', m', n', r'⟩ := sk.yld S ρ G H i x H' _ s.mem.toS s.base s.basr s.old (List.getElem?_eq_getElem hlt) y
      have mm := s.mem.step n' m'
      have s' := s.step mm n'
      rw [forD] at q
      cases hbd : p.bind xs[i] Γ with
      | none => rw [hbd] at q; exact q.elim
      | some Γ1 =>
        rw [hbd] at q
        refine Pat.ok (C := ⟨X.K, cls⟩) p xs[i] x Γ Γ1 σ mm r' hbd _ fun σ2 m2 sb kp => ?_
        refine ⟨_, Γ1, S, ρ, G', sb _ s', ?_⟩
        simp only at q
        cases hz : β Γ1 S with
        | next Γ2 S2 => rw [hz] at q; exact fun ρ3 G3 H3 σ3 s3 => ⟨_, S2, ρ3, G3, s3.clr, q⟩
        | cont Γ2 S2 => rw [hz] at q; exact fun ρ3 G3 H3 σ3 s3 => ⟨_, S2, ρ3, G3, s3.clr, q⟩
        | brk Γ2 S2 => rw [hz] at q; exact fun ρ3 G3 H3 σ3 s3 => q ρ3 G3 H3 σ3 s3.clr
        | ret d S2 => rw [hz] at q; exact q
        | exc e Γ2 S2 => rw [hz] at q; exact q
        | stuck => rw [hz] at q; exact q.elim
    · have e : i = xs.length := by omega
      subst e
      rw [List.drop_length, forD] at q
      exact .inl ⟨sk.stop S ρ G H s.mem.toS s.base s.basr s.old, q ρ G H σ s⟩⟩
def noXc : Out → Out
  | .exc _ _ _ => .stuck
  | o => o
def sForK (i : Nat) (p : Pat) (kl : List Nat) (β : Ds) : Ds := fun Γ S => noXc (sFor (iK i) p kl β Γ S)
theorem ds_forK {body : List Stmt} {p : Pat} {kl : List Nat} {β : Ds} (i : Nat) (hp : PassesOwn (model X.prog X.w) X.A X.env X.xe) (hc : X.calm = true) (hg : PG X tg (p.g X.K)) (hb : DSs X cls W body β)
    (hN : X.N[i]? = some x := by rfl) (hv : Vis X.env.scope x := by first | exact Or.inl rfl | exact Or.inr (Or.inl rfl) | exact Or.inr (Or.inr rfl)) (hd : (x == ("__debug__" : Str)) = false := by decide)
    (hcd : (x == ("__classdict__" : Str)) = false := by decide)
    (hs : ∀ y, foldedSetIterable (.Name x p0) X.env y = pure y := by intro _; rfl) : DS X cls W (.For tg (.Name x p0) body [] pos) (sForK i p kl β) := by
  have base := ps_for (pos := pos) hp hc (pi_k (cls := cls) (W := W) (p0 := p0) (tg := tg) i hN hv hd hcd) hg hb hs
  refine PS.weak (PS.or base (ps_lock base)) fun Dn σ H ⟨en, Γ, S, ρ, G, s, q⟩ => ?_
  unfold sForK at q
  have nx : ∀ e Γ' S', sFor (iK i) p kl β Γ S ≠ .exc e Γ' S' := fun e Γ' S' z => by rw [z] at q; exact q
  have q' : PostS ⟨X.K, cls⟩ W en Dn (sFor (iK i) p kl β Γ S) := by
    cases z : sFor (iK i) p kl β Γ S with
    | exc e Γ' S' => exact absurd z (nx e Γ' S')
    | _ => rw [z] at q; exact q
  -- the dict
  obtain ⟨ks, xs, hΓ⟩ : ∃ ks xs, Γ[i]? = some (.val (.dct ks xs)) := by
    unfold sFor iK at q'
    split at q'
    · rename_i ks xs h; exact ⟨ks, xs, h⟩
    · exact q'.elim
  obtain ⟨v, e1, r⟩ := s.mem.val i _ hΓ
  rw [Rep] at r
  obtain ⟨d, vs, rfl, g, hl, rr⟩ := r
  rcases s.mem.sub.dk g with hk | ⟨od, hk⟩
  · refine .inr ⟨d, _, hk, trivial, fun od => ?_⟩
    obtain ⟨en', s', b1, b2⟩ := ent_lock s hk g od
    have q2 := post_lock (u := .dK (ks.zip vs)) rfl b1 b2 nx q'
    have := for_core s' q2
    exact ⟨⟨d, od, _, e1, upd_same⟩, this⟩
  · exact .inl ⟨⟨d, od, _, e1, hk⟩, for_core s q'⟩
end
end DL

namespace DL
open PySem PySem.Spec PyProof.Rows L2
/-! ### e.f, o.f = e -/
def eAtt (f : Str) (g : Nat → Bool) (a : De) : De := fun Γ S => (a Γ S).bind fun x S1 => match deref S1 x with
  | .ins c ns xs => if g c = true then ofO ((ns.zip xs).lookup f) S1 else .stuck
  | _ => .stuck
def putD (f : Str) (d : D) : List Str → List D → List Str × List D
  | n :: ns, x :: xs => if n = f then (n :: ns, d :: xs) else (n :: (putD f d ns xs).1, x :: (putD f d ns xs).2)
  | _, _ => ([f], [d])
theorem putD_rep {C : Cn} {ρ : List Addr} {G : Hp} {f : Str} {d : D} {v : V} (rd : Rep C ρ G d v) : ∀ {ns : List Str} {xs : List D} {vs : List V}, Reps C ρ G xs vs → ns.length = xs.length →
    ∃ us, putF f v (ns.zip vs) = (putD f d ns xs).1.zip us ∧ (putD f d ns xs).1.length = (putD f d ns xs).2.length ∧ Reps C ρ G (putD f d ns xs).2 us
  | [], [], vs, r, _ => by
    rw [r.inv0]
    refine ⟨[v], ?_, by unfold putD; rfl, by unfold putD; exact .cons rd .nil⟩
    unfold putD; unfold putF; rfl
  | [], x :: xs, vs, r, h => by cases h
  | n :: ns, [], vs, r, h => by cases h
  | n :: ns, x :: xs, vs, r, h => by
    obtain ⟨u, us, rfl, h1, h2⟩ := r.inv
    obtain ⟨ws, e1, e2, e3⟩ := putD_rep rd (ns := ns) h2 (by simpa using h)
    rw [List.zip_cons_cons]
    unfold putD putF
    by_cases e : n = f
    · rw [if_pos e, if_pos e]
      exact ⟨v :: us, rfl, by simpa using h, .cons rd h2⟩
    · rw [if_neg e, if_neg e, e1]
      exact ⟨u :: ws, rfl, by simp [e2], .cons h1 e3⟩
def sAtt (f : Str) (g : Nat → Bool) (o e : De) : Ds := fun Γ S => after (e Γ S) Γ fun d S1 => after (o Γ S1) Γ fun x S2 => match x with
  | .ptr q => match S2[q]? with
    | some (.ins c ns xs) => if g c = true ∧ ns.length < 900 then .next Γ (S2.set q (.ins c (putD f d ns xs).1 (putD f d ns xs).2)) else .stuck
    | _ => .stuck
  | _ => .stuck
section
variable {X : Cx} {cls : Nat → Addr} {W : WX} {a e o : Expr} {δa δo ε ε1 ε2 : De} {pos pos' p apos cpos : Pos} {f : Str} {g : Nat → Bool}
theorem de_att (hg : ∀ c, g c = true → Cls X.K (cls (c + 3)) ∧ NoAttr X.K (cls (c + 3)) f) (ha : DE X cls W a δa) (hb : attributeBase a f X.env (eval a X.env) = eval a X.env := by rfl) : DE X cls W (.Attribute a f pos) (eAtt f g δa) :=
  PE.weak (pe_fld ha hb) fun σ H Q ⟨Γ, S, ρ, G, m, p⟩ => ⟨Γ, S, ρ, G, m, (Post.seq back_RS p).mono fun x H1 ⟨dx, S1, ρ1, G1, m1, n1, r1, p1⟩ => by
    have rt := m1.read (H0 := H1) (.inl r1)
    split at p1
    · rename_i c ns xs ed
      rw [ed] at rt
      obtain ⟨b, dxx, vs, rfl, h1, hl, rr⟩ := rt
      split at p1
      · rename_i hgc
        obtain ⟨d, hd, p2⟩ := ofO_post p1
        obtain ⟨v, hv, rv⟩ := zip_lookup rr hd
        exact ⟨b, _, dxx, _, v, rfl, h1, (hg c hgc).1, (hg c hgc).2, hv, p2.at m1 rv⟩
      · exact p1.elim
    · exact p1.elim⟩
theorem ds_att {value : Expr} (hg : ∀ c, g c = true → Cls X.K (cls (c + 3)) ∧ NoAttr X.K (cls (c + 3)) f) (ho : DE X cls W o δo) (hv : DE X cls W value ε) (hs : swapsWith value (some (.Attribute o f pos')) pos.line X.env = pure false := by rfl) :
    DS X cls W (.Assign [.Attribute o f pos'] value pos) (sAtt f g δo ε) := PS.weak (ps_fld ho hv hs) fun D σ H ⟨en, Γ, S, ρ, G, s, p⟩ =>
  ⟨Γ, S, ρ, G, s.mem, post_after s p fun d S1 ρ1 G1 H1 v m1 n1 s1 r1 p1 => ⟨Γ, S1, ρ1, G1, s1.mem, post_after s1 p1 fun dx S2 ρ2 G2 H2 x m2 n2 s2 r2 p2 => by
    cases dx with
    | ptr q =>
      simp only at p2
      split at p2
      · rename_i c ns xs hx
        split at p2
        · rename_i hgc
          obtain ⟨b, hb, rfl⟩ := rep_ptr.mp r2
          obtain ⟨b', hb', dxx, vs, h1, hl, rr⟩ := m2.sto q _ hx
          rw [hb] at hb'; cases hb'
          obtain ⟨us, e1, e2, e3⟩ := putD_rep (f := f) (r1.mono n2.ext n2.pre) rr hl
          obtain ⟨m4, n4⟩ := m2.poke (a := b) (o := .ins (cls (c + 3)) dxx (putF f v (ns.zip vs))) (d' := .ins c (putD f d ns xs).1 (putD f d ns xs).2) hx hb ⟨dxx, us, by rw [upd_same, e1], e2, e3⟩
          exact ⟨b, _, dxx, _, rfl, h1, (hg c hgc.1).1, (hg c hgc.1).2, by rw [List.length_zip]; have := hgc.2; omega, p2 _ _ _ _ (s2.step m4 n4)⟩
        · exact p2.elim
      · exact p2.elim
    | _ => exact p2.elim⟩⟩
/-! ### o.append(e), o.pop(), o in the store -/
def sAppP (o e : De) : Ds := fun Γ S => after (o Γ S) Γ fun x S1 => match deref S1 x with
  | .lst _ => after (e Γ S1) Γ fun d S2 => match x with
    | .ptr q => match S2[q]? with
      | some (.lst xs) => if xs.length < sizeLine then .next Γ (S2.set q (.lst (xs ++ [d]))) else .stuck
      | _ => .stuck
    | _ => .stuck
  | _ => .stuck
theorem ds_appP {c : Expr} (h : PE X c (tBM X.K "list" rAppend (tE ⟨X.K, cls⟩ W (RS ⟨X.K, cls⟩) δo) (tCons (tE ⟨X.K, cls⟩ W (RS ⟨X.K, cls⟩) ε) tNil))) (hs : swapsWith c none pos.line X.env = pure false := by rfl) : DS X cls W (.Expr c pos) (sAppP δo ε) :=
  PS.weak (ps_expr h hs) fun D σ H ⟨en, Γ, S, ρ, G, s, p⟩ => ⟨Γ, S, ρ, G, s.mem, post_after s p fun dx S1 ρ1 G1 H1 x m1 n1 s1 r1 p1 => by
    have rt := m1.read (H0 := H1) (.inl r1)
    split at p1
    · rename_i xs0 ed
      rw [ed] at rt
      obtain ⟨b0, vs0, rfl, h0, _⟩ := rt
      refine ⟨.inl ⟨rfl, vs0, SqL.of h0⟩, Γ, S1, ρ1, G1, s1.mem, post_after s1 p1 fun d S2 ρ2 G2 H2 v m2 n2 s2 r2 p2 => ?_⟩
      split at p2
      · rename_i q
        split at p2
        · rename_i xs hx
          split at p2
          · rename_i hl
            obtain ⟨a, vs, e1, ha, h1, rr⟩ := sto_at m2 (Rep.mono n2.ext n2.pre _ _ r1) hx
            cases e1
            obtain ⟨m4, n4⟩ := m2.poke (a := b0) (o := .lst (vs ++ [v])) (d' := .lst (xs ++ [d])) hx ha ⟨_, upd_same, rr.append (.cons r2 .nil)⟩
            exact ⟨b0, vs, v, rfl, rfl, h1, by rw [← rr.length]; exact hl, p2 _ _ _ _ (s2.step m4 n4)⟩
          · exact p2.elim
        · exact p2.elim
      · exact p2.elim
    · exact p1.elim⟩
def sPopP (o : De) : Ds := fun Γ S => after (o Γ S) Γ fun x S1 => match x with
  | .ptr q => match S1[q]? with
    | some (.lst xs) => if xs ≠ [] then .next Γ (S1.set q (.lst xs.dropLast)) else .stuck
    | _ => .stuck
  | _ => .stuck
theorem ds_popP {c : Expr} (h : PE X c (tBM0 X.K "list" rPop (tE ⟨X.K, cls⟩ W (RS ⟨X.K, cls⟩) δo))) (hs : swapsWith c none pos.line X.env = pure false := by rfl) : DS X cls W (.Expr c pos) (sPopP δo) :=
  PS.weak (ps_expr h hs) fun D σ H ⟨en, Γ, S, ρ, G, s, p⟩ => ⟨Γ, S, ρ, G, s.mem, post_after s p fun dx S1 ρ1 G1 H1 x m1 n1 s1 r1 p1 => by
    split at p1
    · rename_i q
      split at p1
      · rename_i xs hx
        split at p1
        · rename_i hne
          obtain ⟨a, vs, rfl, ha, h1, rr⟩ := sto_at m1 r1 hx
          have hlen : xs.length - 1 < xs.length := by have := List.length_pos_iff.mpr hne; omega
          obtain ⟨y, hy, _⟩ := rr.get (List.getElem?_eq_getElem hlen)
          obtain ⟨m4, n4⟩ := m1.poke (a := a) (o := .lst vs.dropLast) (d' := .lst xs.dropLast) hx ha ⟨_, upd_same, rr.dropLast⟩
          exact ⟨.inl ⟨rfl, vs, SqL.of h1⟩, a, vs, y, rfl, rfl, h1, by rw [← rr.length]; exact hy, p1 _ _ _ _ (s1.step m4 n4)⟩
        · exact p1.elim
      · exact p1.elim
    · exact p1.elim⟩
/-! ### d[k] = e, del d[k], d.pop(k), d in the store -/
def sPutP (o k e : De) : Ds := fun Γ S => after (e Γ S) Γ fun d S1 => after (o Γ S1) Γ fun x S2 => after (k Γ S2) Γ fun y S3 => match x with
  | .ptr q => match S3[q]?, keyD y with
    | some (.dct ks xs), some kk => if xs.length < sizeLine then .next Γ (S3.set q (.dct (dPut ks xs kk d).1 (dPut ks xs kk d).2)) else .stuck
    | _, _ => .stuck
  | _ => .stuck
theorem sto_dct {C : Cn} {Γ : List Sl} {S : List D} {ρ : List Addr} {G H : Hp} {σ : L2.St} (m : Mem C Γ S ρ G H σ) {q : Nat} {v : V} {ks : List Key} {xs : List D} (r : Rep C ρ G (.ptr q) v) (h : S[q]? = some (.dct ks xs)) :
    ∃ a vs, v = V.ref a ∧ ρ[q]? = some a ∧ H a = some (.dK (ks.zip vs)) ∧ ks.length = xs.length ∧ Reps C ρ G xs vs := by
  obtain ⟨a, ha, rfl⟩ := rep_ptr.mp r
  obtain ⟨b, hb, vs, h1, h2, h3⟩ := m.sto q _ h
  rw [ha] at hb; cases hb
  exact ⟨a, vs, rfl, ha, h1, h2, h3⟩
theorem ds_putP {k val : Expr} (hu : X.A.units + 1 < cLine) (ho : DE X cls W o δo) (hk : DE X cls W k ε1) (hv : DE X cls W val ε2) (hs : swapsWith val (some (.Subscript o k pos')) pos.line X.env = pure false := by rfl) :
    DS X cls W (.Assign [.Subscript o k pos'] val pos) (sPutP δo ε1 ε2) := PS.weak (ps_dput hu ho hk hv hs) fun D σ H ⟨en, Γ, S, ρ, G, s, p⟩ =>
  ⟨Γ, S, ρ, G, s.mem, post_after s p fun d S1 ρ1 G1 H1 v m1 n1 s1 r1 p1 => ⟨Γ, S1, ρ1, G1, s1.mem, post_after s1 p1 fun dx S2 ρ2 G2 H2 x m2 n2 s2 r2 p2 => ⟨Γ, S2, ρ2, G2, s2.mem, post_after s2 p2 fun dy S3 ρ3 G3 H3 y m3 n3 s3 r3 p3 => by
    cases dx with
    | ptr q =>
      simp only at p3
      split at p3
      · rename_i ks xs kk hx hkk
        split at p3
        · rename_i hz
          obtain ⟨a, vs, rfl, ha, h1, hl, rr⟩ := sto_dct m3 (Rep.mono n3.ext n3.pre _ _ r2) hx
          have ek := keyD_v hkk r3
          subst ek
          obtain ⟨us, e1, e2, e3⟩ := put_zip ((r1.mono n2.ext n2.pre).mono n3.ext n3.pre) rr hl kk
          obtain ⟨m4, n4⟩ := m3.poke (a := a) (o := .dK (putK (ks.zip vs) kk v)) (d' := .dct (dPut ks xs kk d).1 (dPut ks xs kk d).2) hx ha ⟨us, by rw [upd_same, e1], e2, e3⟩
          refine ⟨a, _, rfl, DPut.k h1 ?_, p3 _ _ _ _ (s3.step m4 n4)⟩
          rw [List.length_zip, hl, rr.length, Nat.min_self, ← rr.length]; exact hz
        · exact p3.elim
      · exact p3.elim
    | _ => exact p3.elim⟩⟩⟩
def dDropX (k : Key) : List Key → List D → List Key × List D
  | q :: ks, x :: xs => if q = k then dDropX k ks xs else (q :: (dDropX k ks xs).1, x :: (dDropX k ks xs).2)
  | _, _ => ([], [])
theorem drop_zip {C : Cn} {ρ : List Addr} {G : Hp} (k : Key) : ∀ {ks : List Key} {xs : List D} {vs : List V}, Reps C ρ G xs vs → ks.length = xs.length →
    ∃ us, dropK (ks.zip vs) k = (dDropX k ks xs).1.zip us ∧ (dDropX k ks xs).1.length = (dDropX k ks xs).2.length ∧ Reps C ρ G (dDropX k ks xs).2 us
  | [], [], vs, r, _ => by rw [r.inv0]; exact ⟨[], rfl, by unfold dDropX; rfl, by unfold dDropX; exact .nil⟩
  | [], x :: xs, vs, r, h => by cases h
  | n :: ns, [], vs, r, h => by cases h
  | q :: ks, x :: xs, vs, r, h => by
    obtain ⟨u, us, rfl, h1, h2⟩ := r.inv
    obtain ⟨ws, e1, e2, e3⟩ := drop_zip k (ks := ks) h2 (by simpa using h)
    unfold dropK at e1 ⊢
    rw [List.zip_cons_cons, List.filter_cons]
    unfold dDropX
    by_cases e : q = k
    · rw [if_pos e]; simp [e] at e1 ⊢; exact ⟨ws, e1, e2, e3⟩
    · rw [if_neg e]; simp [e] at e1 ⊢; exact ⟨u :: ws, by rw [e1]; rfl, by simp [e2], .cons h1 e3⟩
def sDelP (o k : De) : Ds := fun Γ S => after (o Γ S) Γ fun x S1 => after (k Γ S1) Γ fun y S2 => match x with
  | .ptr q => match S2[q]?, keyD y with
    | some (.dct ks xs), some kk => if (dGet ks xs kk).isSome = true then .next Γ (S2.set q (.dct (dDropX kk ks xs).1 (dDropX kk ks xs).2)) else .stuck
    | _, _ => .stuck
  | _ => .stuck
theorem valV_some {C : Cn} {ρ : List Addr} {G : Hp} {ks : List Key} {xs : List D} {vs : List V} (r : Reps C ρ G xs vs) (hl : ks.length = xs.length) (k : Key) : (valV (ks.zip vs) k).isSome = (dGet ks xs k).isSome := by
  have z := dGet_val r hl k
  cases q : dGet ks xs k with
  | some d => rw [q] at z; obtain ⟨v, e, _⟩ := z; rw [e]; rfl
  | none => rw [q] at z; rw [z]; rfl
theorem ds_delP {k : Expr} {tpos : Pos} (ho : DE X cls W o δo) (hk : DE X cls W k ε1) : DS X cls W (.Delete [.Subscript o k tpos] pos) (sDelP δo ε1) := PS.weak (ps_ddel ho hk) fun D σ H ⟨en, Γ, S, ρ, G, s, p⟩ =>
  ⟨Γ, S, ρ, G, s.mem, post_after s p fun dx S2 ρ2 G2 H2 x m2 n2 s2 r2 p2 => ⟨Γ, S2, ρ2, G2, s2.mem, post_after s2 p2 fun dy S3 ρ3 G3 H3 y m3 n3 s3 r3 p3 => by
    cases dx with
    | ptr q =>
      simp only at p3
      split at p3
      · rename_i ks xs kk hx hkk
        split at p3
        · rename_i hz
          obtain ⟨a, vs, rfl, ha, h1, hl, rr⟩ := sto_dct m3 (Rep.mono n3.ext n3.pre _ _ r2) hx
          have ek := keyD_v hkk r3
          subst ek
          obtain ⟨us, e1, e2, e3⟩ := drop_zip kk rr hl
          obtain ⟨m4, n4⟩ := m3.poke (a := a) (o := .dK (dropK (ks.zip vs) kk)) (d' := .dct (dDropX kk ks xs).1 (dDropX kk ks xs).2) hx ha ⟨us, by rw [upd_same, e1], e2, e3⟩
          exact ⟨a, _, kk, rfl, h1, rfl, by rw [valV_some rr hl]; exact hz, p3 _ _ _ _ (s3.step m4 n4)⟩
        · exact p3.elim
      · exact p3.elim
    | _ => exact p3.elim⟩⟩
end
end DL

namespace DL
open PySem PySem.Spec PyProof.Rows L2
/-! ### methods, new instances -/
def eMeth (c : Nat) (m : Str) (F : List D → List D → Res D) (o : De) (α : Da) : De := fun Γ S => (o Γ S).bind fun x S1 => match deref S1 x with
  | .ins c' ns _ => if c' = c ∧ ns.contains m = false then (α Γ S1).bind fun ds S2 => F (x :: ds) S2 else .stuck
  | _ => .stuck
def eMake (c : Nat) (F : List D → List D → Res D) (α : Da) : De := fun Γ S => (α Γ S).bind fun ds S1 => (F (.ptr S1.length :: ds) (S1 ++ [.ins c [] []])).bind fun d S2 => if isNon d = true then .ok (.ptr S1.length) S2 else .stuck
theorem lookup_zip_none {ns : List Str} {vs : List V} {m : Str} (h : ns.contains m = false) : (ns.zip vs).lookup m = none := by
  induction ns generalizing vs with
  | nil => rfl
  | cons n r ih =>
    cases vs with
    | nil => rfl
    | cons v us =>
      rw [List.contains_cons, Bool.or_eq_false_iff] at h
      rw [List.zip_cons_cons, List.lookup_cons, h.1]
      exact ih h.2
section
variable {C : Cn} {W : WX} {F : List D → List D → Res D} {Γ : List Sl} {S : List D} {ρ : List Addr} {G H : Hp} {σ : L2.St} {Q : VK} {α : Da}
theorem exM {k : Nat} {d0 : D} {v0 : V} (hal : ALen α k) (m : Mem C Γ S ρ G H σ) (r0 : Rep C ρ G d0 v0) (p : Post C W (RS C) Γ ρ G H σ ((α Γ S).bind fun ds S2 => F (d0 :: ds) S2) Q) :
    tA C W α σ H fun vs H1 => spD C (k + 1) F (v0 :: vs) H1 Q (fun c d H2 => W c d σ H2) := by
  refine ⟨Γ, S, ρ, G, m, ?_⟩
  cases q : α Γ S with
  | exc x S1 => rw [q] at p; exact p
  | stuck => rw [q] at p; exact p
  | ok ds S1 =>
    rw [q] at p
    simp only [Res.bind_ok] at p
    intro vs ρ1 G1 H1 m1 n1 r1
    refine ⟨S1, ρ1, G1, d0 :: ds, m1.toS, .cons (r0.mono n1.ext n1.pre) r1, ?_, ?_⟩
    · rw [List.length_cons, ← r1.length, hal.le _ _ _ _ q]
    cases z : F (d0 :: ds) S1 with
    | ok d S2 => rw [z] at p; exact fun v ρ2 G2 H2 m2 n2 r2 => p v ρ2 G2 H2 (m1.step n2 m2) (n1.trans n2) r2
    | exc x S2 => rw [z] at p; exact fun c dx ρ2 G2 H2 m2 n2 r2 => p c dx ρ2 G2 H2 (m1.step n2 m2) (n1.trans n2) r2
    | stuck => rw [z] at p; exact p
/-- one more object in the store -/
theorem MemS.push {a : Addr} {d : D} (m : MemS C S ρ G H) (na : a ∉ ρ) (ga : G a = none) (r : ObAt C ρ G H a d) : MemS C (S ++ [d]) (ρ ++ [a]) G H := by
  have k : ρ <+: ρ ++ [a] := List.prefix_append _ _
  refine ⟨m.sub, fun i d h => by simp at h, fun i d h => by simp at h, fun i j d d' a h => by simp at h, fun i x h => ?_, fun b hb => ?_, by rw [List.length_append, List.length_append, m.len] <;> rfl, ?_, rfl, fun i x h => by simp at h⟩
  · by_cases hi : i < S.length
    · rw [List.getElem?_append_left hi] at h
      obtain ⟨b, hb, rb⟩ := m.sto i x h
      exact ⟨b, by rw [List.getElem?_append_left (by rw [m.len]; exact hi)]; exact hb, rb.mono .refl k fun _ q => q⟩
    · rw [List.getElem?_append_right (by omega)] at h
      have e : i = S.length := by
        have := (List.getElem?_eq_some_iff.mp h).1
        simp at this; omega
      subst e
      simp at h; subst h
      exact ⟨a, by rw [List.getElem?_append_right (by rw [m.len]; omega), m.len]; simp, r.mono .refl k fun _ q => q⟩
  · rcases List.mem_append.mp hb with z | z
    · exact m.stG b z
    · rw [List.mem_singleton] at z; subst z; exact ga
  · rw [List.nodup_append]
    exact ⟨m.nd, by simp, fun x hx y hy e => by rw [List.mem_singleton] at hy; subst hy; subst e; exact na hx⟩
end
section
variable {X : Cx} {cls : Nat → Addr} {W : WX} {k c n : Nat} {f : Addr} {fd : FuncData} {ps : List Str} {x m : Str} {p pos apos : Pos} {e o : Expr} {es : List Expr} {α : Da} {δo : De} {F : List D → List D → Res D}
theorem meth_post {Γ : List Sl} {S : List D} {ρ : List Addr} {G H : Hp} {σ : L2.St} {Q : VK} (hal : ALen α n) (mm : Mem ⟨X.K, cls⟩ Γ S ρ G H σ) (q : Post ⟨X.K, cls⟩ W (RS ⟨X.K, cls⟩) Γ ρ G H σ (eMeth c m F δo α Γ S) Q) :
    tE ⟨X.K, cls⟩ W (RS ⟨X.K, cls⟩) δo σ H fun x H1 => ∃ a dx fs, x = .ref a ∧ H1 a = some (.ins (cls (c + 3)) dx fs) ∧ fs.lookup m = none ∧ tA ⟨X.K, cls⟩ W α σ H1 fun vs H2 => spD ⟨X.K, cls⟩ (n + 1) F (x :: vs) H2 Q (fun c d H2 => W c d σ H2) := by
  unfold eMeth at q
  refine ⟨Γ, S, ρ, G, mm, (Post.seq back_RS q).mono fun x H1 ⟨dx, S1, ρ1, G1, m1, n1, r1, p1⟩ => ?_⟩
  have rt := m1.read (H0 := H1) (.inl r1)
  split at p1
  · rename_i c' ns xs ed
    rw [ed] at rt
    obtain ⟨b, dxx, vs, rfl, h1, hl, rr⟩ := rt
    split at p1
    · rename_i hc
      obtain ⟨hc, hn⟩ := hc
      subst hc
      exact ⟨b, dxx, _, rfl, h1, lookup_zip_none hn, exM hal m1 r1 p1⟩
    · exact p1.elim
  · exact p1.elim
theorem de_meth {pl : Sem Bool} (Cl : Cls X.K (cls (c + 3))) (hm : Meth X.K (cls (c + 3)) m f) (Fn : FnG X.prog X.w X.K X.mg X.base k f fd ps (spD ⟨X.K, cls⟩ (n + 1) F)) (tk : Takes X W) (rm : RoomG k X.A) (bd : Binds X.K fd ps []) (ho : DE X cls W o δo) (ha : DA X cls W (e :: es) α) (hal : ALen α n)
    (hst : starEach (e :: es) X.env = (false, eval e X.env) :: starEach es X.env := by rfl) (hpl : (backTo pos (starEach es X.env)).any (·.1) = false := by rfl)
    (ht : eval (.Call (.Attribute o m apos) (e :: es) [] pos) X.env = (do let ov ← eval o X.env; standAt apos.atName; let (f, first) ← holding [ov] (getMethod ov m pl); callWith pos f first (backTo pos (starEach (e :: es) X.env)) (backToKw pos (keywordEach [] X.env))) := by rfl) :
    DE X cls W (.Call (.Attribute o m apos) (e :: es) [] pos) (eMeth c m F δo α) := ⟨fun pins s σ H Q I ⟨Γ, S, ρ, G, mm, q⟩ => by
  refine PySem.W.methodCall_KW (pl := pl) (thn (ho.run pins s σ H _ I (meth_post hal mm q)) fun u s1 ⟨x, H1, I1, rx, a, dx, fs, ex, ea, l, q⟩ => ?_) ht
  subst ex; obtain rfl : u = Value.ref a := rx
  refine getmeth_ok I1 ea Cl hm l ?_
  refine PySem.W.callWith_K (first := [.ref a]) (h₀ := X.base) I.ok.mod.kin hm.kp (thn (ha.run pos pins s1 σ H1 _ I1 q) fun us s2 ⟨vs, H2, I2, r, q2⟩ => ⟨I2.kIn, ?_⟩) hst hpl
  exact goesG (us := .ref a :: us) (vs := .ref a :: vs) Fn rm bd (passAt tk σ) I2 (.cons rfl r) q2⟩
theorem de_meth0 {pl : Sem Bool} (Cl : Cls X.K (cls (c + 3))) (hm : Meth X.K (cls (c + 3)) m f) (Fn : FnG X.prog X.w X.K X.mg X.base k f fd ps (spD ⟨X.K, cls⟩ (0 + 1) F)) (tk : Takes X W) (rm : RoomG k X.A) (bd : Binds X.K fd ps []) (ho : DE X cls W o δo)
    (ht : eval (.Call (.Attribute o m apos) [] [] pos) X.env = (do let ov ← eval o X.env; standAt apos.atName; let (f, first) ← holding [ov] (getMethod ov m pl); callWith pos f first (backTo pos (starEach [] X.env)) (backToKw pos (keywordEach [] X.env))) := by rfl) :
    DE X cls W (.Call (.Attribute o m apos) [] [] pos) (eMeth c m F δo aNil) := ⟨fun pins s σ H Q I ⟨Γ, S, ρ, G, mm, q⟩ => by
  refine PySem.W.methodCall_KW (pl := pl) (thn (ho.run pins s σ H _ I (meth_post ALen.nil mm q)) fun u s1 ⟨x, H1, I1, rx, a, dx, fs, ex, ea, l, q⟩ => ?_) ht
  subst ex; obtain rfl : u = Value.ref a := rx
  refine getmeth_ok I1 ea Cl hm l ?_
  obtain ⟨Γ1, S1, ρ1, G1, m1, p1⟩ := q
  exact PySem.W.callWith_K0 (first := [.ref a]) I1.kIn hm.kp (goesG (us := [.ref a]) (vs := [.ref a]) Fn rm bd (passAt tk σ) I1 (.cons rfl .nil) (p1 [] ρ1 G1 H1 m1 .refl .nil))⟩
theorem RoomG.make {A : Around} (r : RoomG (k + 1) A) (C : Addr) (us : List Value) (kw : List (Str × Value)) : RoomG k (A.under (.builtin "type.__call__" ⟨.ref C :: us, kw⟩)) := ⟨r.toRoom.make C us kw, by
  have h := r.gd
  simp [Around.under, Code.guards, Code.isGuard, guardIds, pushGuards, h]⟩
theorem new_go {pins : List (Addr × Obj)} {σ : L2.St} {H : Hp} {s : Shared} {Q : VK} {E : XK} {us : List Value} {vs : List V} {C : Addr} {sp : Sp} (M : Mk X.K C f) (Fn : FnG X.prog X.w X.K X.mg X.base k f fd ps sp) (rm : RoomG (k + 1) X.A) (bd : Binds X.K fd ps [])
    (pa : ∀ pins H s er s2, Inv X pins σ H s → L2.CX X.prog X.w X.stack H s E er s2 → X.xe er s2) (I : Inv X pins σ H s) (rv : Vals vs us)
    (h : ∀ x dx, H x = none → H dx = none → dx ≠ x → sp (.ref x :: vs) (upd (upd H dx (.own x)) x (.ins C dx [])) (fun v H2 => v = .non ∧ Q (.ref x) H2) E) :
    wpAny (model X.prog X.w) X.A (call (.ref C) us) (EP X pins σ Q) X.xe s := by
  have hq := h (s.heap.objs.size + 1) s.heap.objs.size (I.hok.fresh (Nat.le_succ _)) (I.hok.fresh (Nat.le_refl _)) (Nat.ne_of_lt (Nat.lt_succ_self _))
  have J := Inv.made (C := C) I
  have r2 : Vals (V.ref (s.heap.objs.size + 1) :: vs) (Value.ref (s.heap.objs.size + 1) :: us) := .cons rfl rv
  have b2 := bd _ (Value.ref (s.heap.objs.size + 1) :: us) J.kIn (by rw [List.append_nil, ← r2.length]; exact Fn.lng _ _ _ _ hq)
  rw [List.append_nil] at b2
  refine wpAny_call (make_map (f := f) I.kIn M.makes M.init (beq_iff_eq.mp M.fn) (codeAny_mono (Fn.goes _ X.stack _ _ ⟨Value.ref (s.heap.objs.size + 1) :: us, []⟩ _ _ _ E (rm.make C us []) (J.env0.make C us []) b2 r2 hq) ?_))
  intro r s2 hq'
  match r, hq' with
  | .error er, hq' => exact pa pins _ _ er s2 J hq'
  | .ok .next, hq' => exact hq'.elim
  | .ok .brk, hq' => exact hq'.elim
  | .ok .cont, hq' => exact hq'.elim
  | .ok (.ret u), hq' =>
    obtain ⟨v, H', I3, rv3, ev, q3⟩ := J.after hq'
    subst ev
    exact ⟨rv3, ⟨V.ref (s.heap.objs.size + 1), H', I3, rfl, q3⟩⟩
theorem make_post {Γ : List Sl} {S : List D} {ρ : List Addr} {G H : Hp} {σ : L2.St} {Q : VK} (hal : ALen α n) (mm : Mem ⟨X.K, cls⟩ Γ S ρ G H σ) (q : Post ⟨X.K, cls⟩ W (RS ⟨X.K, cls⟩) Γ ρ G H σ (eMake c F α Γ S) Q) :
    tA ⟨X.K, cls⟩ W α σ H fun vs H1 => ∀ x dx, H1 x = none → H1 dx = none → dx ≠ x → spD ⟨X.K, cls⟩ (n + 1) F (.ref x :: vs) (upd (upd H1 dx (.own x)) x (.ins (cls (c + 3)) dx [])) (fun v H2 => v = .non ∧ Q (.ref x) H2) (fun c d H2 => W c d σ H2) := by
  refine ⟨Γ, S, ρ, G, mm, ?_⟩
  unfold eMake at q
  cases z : α Γ S with
  | exc x S1 => rw [z] at q; exact q
  | stuck => rw [z] at q; exact q
  | ok ds S1 =>
    rw [z] at q
    simp only [Res.bind_ok] at q
    intro vs ρ1 G1 H1 m1 n1 r1 x dx hx hdx hne
    obtain ⟨m2, n2, _, _⟩ := m1.new (o := .own x) hdx
    have hx2 : upd H1 dx (.own x) x = none := by rw [upd_ne (Ne.symm hne)]; exact hx
    obtain ⟨m3, n3, nx3, gx3⟩ := m2.new (o := .ins (cls (c + 3)) dx []) hx2
    have m4 : MemS ⟨X.K, cls⟩ (S1 ++ [.ins c [] []]) (ρ1 ++ [x]) G1 (upd (upd H1 dx (.own x)) x (.ins (cls (c + 3)) dx [])) := m3.toS.push nx3 gx3 ⟨dx, [], upd_same, rfl, .nil⟩
    have n23 := n2.trans n3
    have n4 : Nx ρ1 G1 H1 (ρ1 ++ [x]) G1 (upd (upd H1 dx (.own x)) x (.ins (cls (c + 3)) dx [])) := ⟨List.prefix_append _ _, .refl, fun _ _ h => .inl h, n23.keep, n23.live, fun a ha => by
      rcases List.mem_append.mp ha with y | y
      · exact .inl y
      · rw [List.mem_singleton] at y; subst y; exact .inr hx⟩
    have hk : (ρ1 ++ [x])[S1.length]? = some x := by rw [← m1.len, List.getElem?_append_right (Nat.le_refl _)]; simp
    refine ⟨_, _, _, .ptr S1.length :: ds, m4, .cons (rep_ptr.mpr ⟨x, hk, rfl⟩) (r1.mono n4.ext n4.pre _), ?_, ?_⟩
    · rw [List.length_cons, ← r1.length, hal.le _ _ _ _ z]
    cases w : F (.ptr S1.length :: ds) (S1 ++ [.ins c [] []]) with
    | stuck => rw [w] at q; exact q
    | exc e S2 => rw [w] at q; exact fun c dx ρ2 G2 H2 m5 n5 r5 => q c dx ρ2 G2 H2 (m1.step (n4.trans n5) m5) ((n1.trans n4).trans n5) r5
    | ok d S2 =>
      rw [w] at q
      simp only [Res.bind_ok] at q
      intro v ρ2 G2 H2 m5 n5 r5
      split at q
      · rename_i hd
        cases d <;> first | (cases hd; done) | skip
        have ev := rep_non.mp r5
        refine ⟨ev, q (.ref x) ρ2 G2 H2 (m1.step (n4.trans n5) m5) ((n1.trans n4).trans n5) (rep_ptr.mpr ⟨x, ?_, rfl⟩)⟩
        obtain ⟨t, ht⟩ := n5.pre
        rw [← ht, List.getElem?_append_left (by rw [List.length_append, m1.len]; simp)]
        exact hk
      · exact q.elim
theorem de_make (M : Mk X.K (cls (c + 3)) f) (Fn : FnG X.prog X.w X.K X.mg X.base k f fd ps (spD ⟨X.K, cls⟩ (n + 1) F)) (tk : Takes X W) (rm : RoomG (k + 1) X.A) (hg : Gl X x) (hm : X.mg x = some (.ref (cls (c + 3)))) (bd : Binds X.K fd ps []) (ha : DA X cls W (e :: es) α) (hal : ALen α n)
    (hdb : (x == ("__debug__" : Str)) = false := by decide) (he : starEach (e :: es) X.env = (false, eval e X.env) :: starEach es X.env := by rfl) (hpl : (backTo pos (starEach es X.env)).any (·.1) = false := by rfl) : DE X cls W (.Call (.Name x p) (e :: es) [] pos) (eMake c F α) := ⟨fun pins s σ H Q I ⟨Γ, S, ρ, G, mm, q⟩ => by
  refine wpAny_Call_Name_kw (ld_glob I hg hm ?_ hdb)
  exact PySem.W.callWith_K (h₀ := X.base) I.ok.mod.kin M.kp (thn (ha.run pos pins s σ H _ I (make_post hal mm q)) fun us s1 ⟨vs, H1, I1, r, q2⟩ => ⟨I1.kIn, new_go M Fn rm bd (passAt tk σ) I1 r q2⟩) he hpl⟩
theorem de_make0 (M : Mk X.K (cls (c + 3)) f) (Fn : FnG X.prog X.w X.K X.mg X.base k f fd ps (spD ⟨X.K, cls⟩ (0 + 1) F)) (tk : Takes X W) (rm : RoomG (k + 1) X.A) (hg : Gl X x) (hm : X.mg x = some (.ref (cls (c + 3)))) (bd : Binds X.K fd ps [])
    (hdb : (x == ("__debug__" : Str)) = false := by decide) : DE X cls W (.Call (.Name x p) [] [] pos) (eMake c F aNil) := ⟨fun pins s σ H Q I ⟨Γ, S, ρ, G, mm, q⟩ => by
  refine wpAny_Call_Name_kw (ld_glob I hg hm ?_ hdb)
  obtain ⟨Γ1, S1, ρ1, G1, m1, p1⟩ := make_post ALen.nil mm q
  exact PySem.W.callWith_K0 I.kIn M.kp (new_go (us := []) (vs := []) M Fn rm bd (passAt tk σ) I .nil (p1 [] ρ1 G1 H m1 .refl .nil))⟩
end
end DL

namespace DL
open PySem PySem.Spec PyProof.Rows L2
/-! ### several except clauses with names -/
abbrev TsA := Addr → Value → Option Addr → TS
def behind (i : Nat) (Dn : Ends) : Ends := { nx := fun σ H => Dn.nx (σ.set i none) H, rt := Dn.rt, bk := fun σ H => Dn.bk (σ.set i none) H, ct := fun σ H => Dn.ct (σ.set i none) H }
def wNm (K : PySem.W.Frag) (Wo : WX) (Dn : Ends) : List (Value × Nat × TsA) → WX
  | [] => Wo
  | (c, i, ts) :: r => fun cls d σ H => ∃ b, PySem.W.exmOne K cls c = some b ∧ (b = true → ∀ a, H a = none → ts a cls d (behind i Dn) (σ.set i (some (.ref a))) H) ∧ (b = false → wNm K Wo Dn r cls d σ H)
inductive HdN (X : Cx) : List ExceptHandler → List (Value × Nat × TsA) → Prop
  | nil : HdN X [] []
  | cons {x n : Str} {c : Value} {i : Nat} {ts : TsA} {b₀ : Stmt} {suite : List Stmt} {np pp : Pos} {hds : List ExceptHandler} {l : List (Value × Nat × TsA)} (hc : Names X x c) (hi : X.N[i]? = some n) (hln : X.env.kindOf n = some .local)
      (hsu : ∀ (a : Addr) (oe : Obj) (cv : Value) (d : Option Addr) (pn : List (Addr × Obj)), Zc cv d oe → (∃ vs, oe.data = .fields vs) → PSs (X.suite a ((a, oe) :: pn)) (b₀ :: suite) (ts a cv d)) (r : HdN X hds l) : HdN X (.ExceptHandler (some (.Name x np)) (some n) (b₀ :: suite) pp :: hds) ((c, i, ts) :: l)
section
variable {X : Cx} {body : List Stmt} {g₀ : ExceptHandler} {hds : List ExceptHandler} {l : List (Value × Nat × TsA)} {pos : Pos} {tb : WX → TS} {Wo : WX}
theorem ps_try_named (sk : X.stack = X.env :: X.outer) (fr : X.env.frame = some X.env.locals) (nN : X.N.Nodup) (tk : Takes X Wo) (bd : ∀ (W : WX) (pn : List (Addr × Obj)) (xe : Value → Shared → Prop), Takes (X.tr pn xe) W → PassesOwn (model X.prog X.w) X.A X.env xe → PSs (X.tr pn xe) body (tb W))
    (hn : HdN X (g₀ :: hds) l) : PS X (.Try body (g₀ :: hds) [] [] pos) (fun Dn σ H => tb (wNm X.K Wo Dn l) Dn σ H) := ⟨fun pins s σ H Dn I want => by
  have ok := I.ok
  have afr : X.A.frames = some (X.env :: X.outer) := by rw [ok.frames, sk]
  refine wpAny_Try_except (wpAny_mono ((bd (wNm X.K Wo Dn l) (X.pn ++ pins) (fun e sa => wpAny (model X.prog X.w) X.A (noteFrame e X.env) (fun _ sb => wpAny (model X.prog X.w) X.A (setFlight e none) (fun _ sc => wpAny (model X.prog X.w) X.A (handleBy e X.env (g₀ :: hds)) (SP X pins Dn) X.xe sc) X.xe sb) X.xe sa)
    (fun u t xx => ?_) PassesOwn.looking).run [] s σ H Dn (I.toTry _) want) (fun f t1 hsp => ?_) (fun e t1 he => he))
  · obtain ⟨a, B, sI, pZ, σZ, HZ, cv, d, rfl, JT, nb, up, sky, na, os, ag, w⟩ := xx
    have J0 : Inv X pins σZ HZ sI := JT.ofTry ok
    have skyE : Sky B (X.env :: X.outer) a (Zc cv d) X.env.locals t.heap := by rw [← sk]; exact sky
    change wpAny (model X.prog X.w) X.A (noteFrame (.ref a) X.env) _ _ _
    refine Sky.land Zc.steady afr fr skyE fun hA flA upA => ?_
    have JA : Inv X pins σZ HZ { t with heap := hA } := J0.landed nb flA.1 (up.trans upA) os ag
    obtain ⟨oA, vA, eA, zA, dA⟩ := flA.there
    have offF : a ∉ frs (X.env :: X.outer) := fun hm => by
      obtain ⟨_, o1, e1, n1⟩ := flA.2.2.1.mem hm
      rw [eA] at e1; cases e1; exact n1 _ dA
    have offL : a ≠ X.env.locals := fun z => offF (List.mem_filterMap.mpr ⟨X.env, List.mem_cons_self, by rw [fr, z]⟩)
    have offO : a ∉ X.fs := fun hm => by
      obtain ⟨e1, m1, q1⟩ := List.mem_filterMap.mp hm
      exact offF (List.mem_filterMap.mpr ⟨e1, List.mem_cons_of_mem _ m1, q1⟩)
    have SA := JA.suite eA dA na offL offO
    have each : ∀ {gs : List ExceptHandler} {ls : List (Value × Nat × TsA)}, HdN X gs ls → wNm X.K Wo Dn ls cv d σZ HZ → wpAny (model X.prog X.w) X.A (handleBy (.ref a) X.env gs) (SP X pins Dn) X.xe { t with heap := hA } := by
      intro gs ls hk
      induction hk with
      | nil =>
        intro wz
        refine wpAny_handleBy_nil ?_
        obtain ⟨q1, q2, q3, oX, vX, TX, oTX, tsX, eX, zX, dX, fX, rX⟩ := id flA
        unfold PySem.passOn
        refine wpAny_bind (wpAny_field eX dX fX ?_)
        rw [if_neg (show ¬ ((Value.ref TX == Value.none) = true) by simp)]
        have away : wpAny (model X.prog X.w) X.A (setFlight (.ref a) X.env.frame) (fun _ sd => wpAny (model X.prog X.w) X.A (throw (.ref a) : Sem Flow) (SP X pins Dn) X.xe sd) X.xe { t with heap := hA } := by
          rw [fr]
          exact HandSPX.setFlight_upZ flA fun hB hhB upB => wpAny_throw (tk _ _ ⟨a, B, sI, pins, σZ, HZ, cv, d, rfl, J0, nb, (up.trans upA).trans upB, .inr (.inr (by rw [sk]; exact hhB)), na, os, ag, wz⟩)
        first | exact wpAny_bind (wpAny_pure (wpAny_bind away)) | exact wpAny_bind away
      | @cons x n c i ts b₀ suite np pp hds2 l2 hc hi hln hsu r ih =>
        rintro ⟨b, isB, yes, no⟩
        refine wpAny_handleBy_cons (codeAny_handlers_test ?_) (by intro q; cases q)
        have LK : PySem.W.Looks (model X.prog X.w) hA (typeOf (.ref a)) cv := fun A1 Q1 E1 s1 k1 q1 => wpAny_typeOf_ref (k1 _ _ eA) (by rw [zA.1]; exact q1)
        have LM := PySem.W.exm_one (M := model X.prog X.w) (JA.kIn) LK isB
        have look : ∀ {Q1 : Value → Shared → Prop} {E1 : Value → Shared → Prop}, Q1 c { t with heap := hA } → wpAny (model X.prog X.w) (X.A.mark (some (.ref a))) (eval (.Name x np) X.env) Q1 E1 { t with heap := hA } := fun {Q1 E1} q1 => by
          obtain ⟨hg, hdbg, hm | ⟨hm, hv, hnn⟩⟩ := hc
          · exact ld_glob (X := X.suite a ((a, oA) :: (X.pn ++ pins))) SA hg hm q1 hdbg
          · exact ld_blt (X := X.suite a ((a, oA) :: (X.pn ++ pins))) SA hg hm hv q1 hnn hdbg
        refine look (LM.here ?_)
        cases b with
        | false => exact ih (no rfl)
        | true =>
          refine codeAny_handlers_suite_as (HandSPX.lands_againZ flA fun hB flB upB => ?_)
          have JB : Inv X pins σZ HZ { t with heap := hB } := J0.landed nb flB.1 ((up.trans upA).trans upB) os ag
          obtain ⟨oB, vB, eB, zB, dB⟩ := flB.there
          have SB := JB.suite eB dB na offL offO
          refine store_ok (X := X.suite a ((a, oB) :: (X.pn ++ pins))) (v := .ref a) SB nN hi (.inl hln) rfl (fun s5 S5 => wpAny_mono ((hsu a oB cv d (X.pn ++ pins) zB ⟨_, dB⟩).run [] s5 _ HZ _ S5 (yes rfl a na)) (fun f s6 hq => ?_) (fun _ _ z => False.elim z)) (.inr hln)
          have last : ∀ {σ6 : L2.St} {H6 : Hp} {Q1 : Shared → Prop}, Inv (X.suite a ((a, oB) :: (X.pn ++ pins))) [] σ6 H6 s6 → (∀ s7, Inv X pins (σ6.set i none) H6 s7 → Q1 s7) → wpAny (model X.prog X.w) X.A (do bindName X.env n .none; unbindBehindTheSuite X.env n pp) (fun _ s7 => Q1 s7) X.xe s6 := fun {σ6 H6 Q1} S6 q1 => gone_ok (S6.unsuite ok) nN hi hln q1
          cases f with
          | next => obtain ⟨_, _, S6, q6⟩ := hq; exact last S6 fun _ J7 => ⟨_, _, J7, q6⟩
          | brk => obtain ⟨_, _, S6, q6⟩ := hq; exact last S6 fun _ J7 => ⟨_, _, J7, q6⟩
          | cont => obtain ⟨_, _, S6, q6⟩ := hq; exact last S6 fun _ J7 => ⟨_, _, J7, q6⟩
          | ret u => obtain ⟨_, _, _, S6, r6, q6⟩ := hq; exact last S6 fun _ J7 => ⟨_, _, _, J7, r6, q6⟩
    exact each hn w
  · cases f with
    | next => obtain ⟨σ', H', J', q⟩ := hsp; exact wpAny_execs_nil ⟨σ', H', J'.ofTry ok, q⟩
    | brk => obtain ⟨σ', H', J', q⟩ := hsp; exact ⟨σ', H', J'.ofTry ok, q⟩
    | cont => obtain ⟨σ', H', J', q⟩ := hsp; exact ⟨σ', H', J'.ofTry ok, q⟩
    | ret u => obtain ⟨v, σ', H', J', r, q⟩ := hsp; exact ⟨v, σ', H', J'.ofTry ok, r, q⟩⟩
end
/-- the clauses, one behind the other -/
def catchD : List (Nat × (Nat → Option Bool) × Ds) → Exn → List Sl → List D → Out
  | [], e, Γ, S => .exc e Γ S
  | (i, f, h) :: r, e, Γ, S => match f e.c with
    | some true => if noX Γ then unx (some i) (h (Γ.set i (.xcp e)) S) else .stuck
    | some false => catchD r e Γ S
    | none => .stuck
def sTryN (hs : List (Nat × (Nat → Option Bool) × Ds)) (b : Ds) : Ds := fun Γ S => match b Γ S with
  | .exc e Γ1 S1 => catchD hs e Γ1 S1
  | o => o
inductive CatchOk (X : Cx) (cls : Nat → Addr) : List ExceptHandler → List (Nat × (Nat → Option Bool) × Ds) → List (Value × Nat × TsA) → Prop
  | nil : CatchOk X cls [] [] []
  | cons {x n : Str} {CX : Addr} {i : Nat} {f : Nat → Option Bool} {δh : Ds} {b₀ : Stmt} {suite : List Stmt} {np pp : Pos} {hds : List ExceptHandler} {l : List (Nat × (Nat → Option Bool) × Ds)} {ll : List (Value × Nat × TsA)}
      (hi : X.N[i]? = some n) (hln : X.env.kindOf n = some .local) (hc : Names X x (.ref CX)) (hf : ∀ c b, f c = some b → PySem.W.exmOne X.K (.ref (cls (c + 3))) (.ref CX) = some b)
      (hsu : ∀ (a : Addr) (oe : Obj) (pn : List (Addr × Obj)) (cls' : Nat → Addr), Su cls cls' a oe → DSs (X.suite a ((a, oe) :: pn)) cls' W0 (b₀ :: suite) δh) (r : CatchOk X cls hds l ll) :
      CatchOk X cls (.ExceptHandler (some (.Name x np)) (some n) (b₀ :: suite) pp :: hds) ((i, f, δh) :: l) ((.ref CX, i, tsD X cls δh) :: ll)
theorem CatchOk.hd {X : Cx} {cls : Nat → Addr} {hds : List ExceptHandler} {l : List (Nat × (Nat → Option Bool) × Ds)} {ll : List (Value × Nat × TsA)} (h : CatchOk X cls hds l ll) : HdN X hds ll := by
  induction h with
  | nil => exact .nil
  | cons hi hln hc hf hsu r ih => exact .cons hc hi hln (fun a oe clsv d pn hz hf => PSs.given fun e => hsu a oe pn _ (su_of hz hf e)) ih
section
variable {X : Cx} {cls : Nat → Addr} {W : WX} {body : List Stmt} {g₀ : ExceptHandler} {hds : List ExceptHandler} {l : List (Nat × (Nat → Option Bool) × Ds)} {ll : List (Value × Nat × TsA)} {pos : Pos} {δb : Ds}
theorem catch_ok {en : Ent} {Dn : Ends} {e : Exn} {S1 : List D} {ρ1 : List Addr} {G1 H1 : Hp} {σ1 : L2.St} {clsv : Value} {dx : Option Addr} (h : CatchOk X cls hds l ll) : ∀ {Γ1 : List Sl}, SI ⟨X.K, cls⟩ en Γ1 S1 ρ1 G1 H1 σ1 → ExRep ⟨X.K, cls⟩ ρ1 G1 H1 e clsv dx → PostS ⟨X.K, cls⟩ W en Dn (catchD l e Γ1 S1) → wNm X.K W Dn ll clsv dx σ1 H1 := by
  induction h with
  | nil => exact fun s1 er p => p clsv dx ρ1 G1 H1 σ1 s1 er
  | @cons x n CX i f δh b₀ suite np pp hds l ll hi hln hc hf hsu r ih =>
    intro Γ1 s1 er p
    have ec : clsv = .ref (cls (e.c + 3)) := er.1
    unfold catchD at p
    cases hfe : f e.c with
    | none => rw [hfe] at p; exact p.elim
    | some b =>
      rw [hfe] at p
      refine ⟨b, by rw [ec]; exact hf _ _ hfe, fun hbt a na => ?_, fun hbf => ?_⟩
      · subst hbt
        simp only at p
        split at p
        · rename_i hx
          obtain ⟨z1, z2⟩ := xok_of (X := X) (a := a) er
          have s2 := (SI.re (C := ⟨X.K, cls⟩) (C' := ⟨X.K, xcls cls a dx clsv⟩) rfl (fun n => rfl) hx s1).setx i z2
          exact ⟨z1, en, _, S1, ρ1, G1, s2, try_core (C := ⟨X.K, cls⟩) (C' := ⟨X.K, xcls cls a dx clsv⟩) (oi := some i) rfl (fun n => rfl) (fun _ _ _ _ _ _ s => s.unset i) p⟩
        · exact p.elim
      · subst hbf
        exact ih s1 er p
theorem ds_try_named (sk : X.stack = X.env :: X.outer) (fr : X.env.frame = some X.env.locals) (nN : X.N.Nodup) (tk : Takes X W) (ck : CatchOk X cls (g₀ :: hds) l ll)
    (hb : ∀ (W : WX) (pn : List (Addr × Obj)) (xe : Value → Shared → Prop), Takes (X.tr pn xe) W → PassesOwn (model X.prog X.w) X.A X.env xe → DSs (X.tr pn xe) cls W body δb) : DS X cls W (.Try body (g₀ :: hds) [] [] pos) (sTryN l δb) :=
  PS.weak (ps_try_named (tb := fun W => tS ⟨X.K, cls⟩ W δb) sk fr nN tk hb ck.hd) fun Dn σ H ⟨en, Γ, S, ρ, G, s, p⟩ => ⟨en, Γ, S, ρ, G, s, by
    unfold sTryN at p
    cases q : δb Γ S with
    | exc e Γ1 S1 => rw [q] at p; exact fun clsv dx ρ1 G1 H1 σ1 s1 er => catch_ok ck s1 er p
    | next Γ1 S1 => rw [q] at p; exact p
    | brk Γ1 S1 => rw [q] at p; exact p
    | cont Γ1 S1 => rw [q] at p; exact p
    | ret d S1 => rw [q] at p; exact p
    | stuck => rw [q] at p; exact p⟩
end
end DL

namespace DL
open PySem PySem.Spec PyProof.Rows L2
/-! ### x in d, d a dict or not -/
def cInK (a b : D) : Option D := match keyD a, b with
  | some q, .dct ks xs => some (.bl (dGet ks xs q).isSome)
  | _, _ => none
def cNotInK (a b : D) : Option D := match keyD a, b with
  | some q, .dct ks xs => some (.bl (!(dGet ks xs q).isSome))
  | _, _ => none
def cInA (a b : D) : Option D := if isDct b = true then cInK a b else cIn a b
def cNotInA (a b : D) : Option D := if isDct b = true then cNotInK a b else cNotIn a b
theorem keyD_rt {C : Cn} {ρ : List Addr} {G H : Hp} {d : D} {k : Key} {v : V} (h : keyD d = some k) (r : RT C ρ G H d v) : v = kV k := by
  cases d <;> try cases h
  · rw [rt_int] at r; subst r; rfl
  · rw [rt_str] at r; subst r; rfl
theorem isSome_of {C : Cn} {ρ : List Addr} {G : Hp} {ks : List Key} {xs : List D} {q : Key} {o : Option V} (k : match dGet ks xs q with
    | some d => ∃ v, o = some v ∧ Rep C ρ G d v
    | none => o = none) : o.isSome = (dGet ks xs q).isSome := by
  cases z : dGet ks xs q with
  | some d => rw [z] at k; obtain ⟨v, rfl, _⟩ := k; rfl
  | none => rw [z] at k; rw [k]; rfl
theorem ok_inK {C : Cn} : R2Ok C (RS C) (fun x y H Q => ∃ a o, y = .ref a ∧ DGet H a x o ∧ Q (.bl o.isSome) H) cInK := fun S ρ G H x y d dx dy Q m rx ry e q => by
  unfold cInK at e
  split at e
  · rename_i kk ks xs hk
    cases e
    obtain ⟨a, vs, rfl, h1, hl, rr⟩ := ry
    obtain ⟨o, g, k⟩ := dget_rt h1 hl rr kk
    have ex := keyD_rt hk rx
    subst ex
    exact ⟨a, o, rfl, g, by rw [isSome_of k]; exact q _ _ _ _ m .refl (rep_bl.mpr rfl)⟩
  · cases e
theorem ok_notInK {C : Cn} : R2Ok C (RS C) (fun x y H Q => ∃ a o, y = .ref a ∧ DGet H a x o ∧ Q (.bl (!o.isSome)) H) cNotInK := fun S ρ G H x y d dx dy Q m rx ry e q => by
  unfold cNotInK at e
  split at e
  · rename_i kk ks xs hk
    cases e
    obtain ⟨a, vs, rfl, h1, hl, rr⟩ := ry
    obtain ⟨o, g, k⟩ := dget_rt h1 hl rr kk
    have ex := keyD_rt hk rx
    subst ex
    exact ⟨a, o, rfl, g, by rw [isSome_of k]; exact q _ _ _ _ m .refl (rep_bl.mpr rfl)⟩
  · cases e
section
variable {X : Cx} {cls : Nat → Addr} {W : WX} {a b e o : Expr} {δa δb δo ε ε1 ε2 : De} {pos pos' p apos cpos : Pos}
theorem op_din (hu : X.A.units + 1 < cLine) : OpR X (compareOp .In) (fun x y H Q => ∃ a o, y = .ref a ∧ DGet H a x o ∧ Q (.bl o.isSome) H) := by
  intro pins s σ H x y v u Q I rx ry h
  obtain ⟨b, o, rfl, g, q⟩ := h
  cases ry
  exact d_in hu I g rx fun s3 I3 => ⟨.bl o.isSome, H, I3, rfl, q⟩
theorem op_dnotin (hu : X.A.units + 1 < cLine) : OpR X (compareOp .NotIn) (fun x y H Q => ∃ a o, y = .ref a ∧ DGet H a x o ∧ Q (.bl (!o.isSome)) H) := by
  intro pins s σ H x y v u Q I rx ry h
  obtain ⟨b, o, rfl, g, q⟩ := h
  cases ry
  exact d_notIn hu I g rx fun s3 I3 => ⟨.bl (!o.isSome), H, I3, rfl, q⟩
theorem cInA_or : ∀ a b d, cInA a b = some d → cIn a b = some d ∨ cInK a b = some d := fun a b d h => by
  unfold cInA at h; split at h
  · exact .inr h
  · exact .inl h
theorem cNotInA_or : ∀ a b d, cNotInA a b = some d → cNotIn a b = some d ∨ cNotInK a b = some d := fun a b d h => by
  unfold cNotInA at h; split at h
  · exact .inr h
  · exact .inl h
theorem dt_inA (hu : X.A.units + 1 < cLine) (ha : DO X cls W a δa) (hb : DO X cls W b δb) (hm : behindInMarks .In b = false) : DT X cls W (.Compare a [.In] [b] pos) (tB (eOp cInA δa δb)) := dt_cmp (or_in.or (op_din hu)) (ok_in.or ok_inK cInA_or) ha hb hm
theorem dt_notInA (hu : X.A.units + 1 < cLine) (ha : DO X cls W a δa) (hb : DO X cls W b δb) (hm : behindInMarks .NotIn b = false) : DT X cls W (.Compare a [.NotIn] [b] pos) (tB (eOp cNotInA δa δb)) := dt_cmp (or_notIn.or (op_dnotin hu)) (ok_notIn.or ok_notInK cNotInA_or) ha hb hm
theorem de_inA (hu : X.A.units + 1 < cLine) (ha : DO X cls W a δa) (hb : DO X cls W b δb) (hm : behindInMarks .In b = false) : DE X cls W (.Compare a [.In] [b] pos) (eOp cInA δa δb) := de_cmp (or_in.or (op_din hu)) (ok_in.or ok_inK cInA_or) ha hb hm
theorem de_notInA (hu : X.A.units + 1 < cLine) (ha : DO X cls W a δa) (hb : DO X cls W b δb) (hm : behindInMarks .NotIn b = false) : DE X cls W (.Compare a [.NotIn] [b] pos) (eOp cNotInA δa δb) := de_cmp (or_notIn.or (op_dnotin hu)) (ok_notIn.or ok_notInK cNotInA_or) ha hb hm
/-! ### list(d), dict(d) -/
def dListA (d : D) : Option D := match d with
  | .dct ks _ => some (.lst (ks.map keyK))
  | d => dList d
theorem keys_rep {C : Cn} {ρ : List Addr} {G : Hp} : ∀ ks : List Key, Reps C ρ G (ks.map keyK) (ks.map kV)
  | [] => .nil
  | k :: ks => .cons (keyK_rep k) (keys_rep ks)
theorem rc_listA {C : Cn} : RC1 C (RF C) (fun xs H Q => (∃ p ys, xs = [.ref p] ∧ (SqL C.K H p ys ∨ SqT C.K H p ys) ∧ ∀ l, H l = none → Q (.ref l) (upd H l (.lst ys))) ∨ ∃ (a : Addr) (kvs : List (Key × V)), xs = [.ref a] ∧ Rd H a (.dK kvs) ∧ ∀ p, H p = none → Q (.ref p) (upd H p (.lst (kvs.map fun kv => kV kv.1)))) dListA := fun S ρ G H x d dx Q m rx e q => by
  unfold dListA at e
  split at e
  · rename_i ks xs
    cases e
    obtain ⟨a, vs, rfl, h1, hl, rr⟩ := rx
    refine .inr ⟨a, _, rfl, h1, fun l hlp => ?_⟩
    have e2 : ((ks.zip vs).map fun kv => kV kv.1) = ks.map kV := by
      have : (fun kv : Key × V => kV kv.1) = kV ∘ Prod.fst := rfl
      rw [this, ← List.map_map, List.map_fst_zip (by rw [hl, rr.length]; exact Nat.le_refl _)]
    rw [e2]
    obtain ⟨m2, n2, r⟩ := x_new m (keys_rep (C := C) (ρ := ρ) (G := G) ks) hlp
    exact q _ _ _ _ m2 n2 r
  · exact .inl (rc_list S ρ G H x d dx Q m rx e q)
theorem df_listA (hg : Gl X "list") (hm : X.mg "list" = none) (hc : X.calm = true) (ha : DO X cls W a δa) (he : starEach [a] X.env = (false, eval a X.env) :: starEach [] X.env := by rfl) (hpl : (backTo pos (starEach [] X.env)).any (·.1) = false := by rfl) : DF X cls W (.Call (.Name "list" p) [a] [] pos) (eUn dListA δa) :=
  x_c1 back_RF (pe_callTy (call_list_of.or (call_listD hc)) hg hm (by decide +kernel) (da1 ha he) (by decide) (by decide) he hpl) rc_listA
def dDictA (d : D) : Option D := match d with
  | .dct ks xs => some (.dct ks xs)
  | d => dDict d
theorem rc_dictA {C : Cn} : RC1 C (RF C) (fun xs H Q => (∃ (a : Addr) (ps : List Addr) (kvs : List (Key × V)), xs = [.ref a] ∧ SqL C.K H a (ps.map V.ref) ∧ Paired (fun p kv => SqT C.K H p [kV kv.1, kv.2]) ps kvs ∧ ∀ p, H p = none → Q (.ref p) (upd H p (.dK (mergeK [] kvs)))) ∨
    ∃ (a : Addr) (kvs : List (Key × V)), xs = [.ref a] ∧ Rd H a (.dK kvs) ∧ ∀ p, H p = none → Q (.ref p) (upd H p (.dK kvs))) dDictA := fun S ρ G H x d dx Q m rx e q => by
  unfold dDictA at e
  split at e
  · rename_i ks xs
    cases e
    obtain ⟨a, vs, rfl, h1, hl, rr⟩ := rx
    refine .inr ⟨a, _, rfl, h1, fun p hp => ?_⟩
    obtain ⟨m', n', np, gp⟩ := m.new (o := .dK (ks.zip vs)) hp
    exact q (.ref p) ρ G _ m' n' ⟨p, rfl, np, hp, gp, vs, upd_same, hl, rr⟩
  · exact .inl (rc_dict S ρ G H x d dx Q m rx e q)
theorem df_dictA (hg : Gl X "dict") (hm : X.mg "dict" = none) (hc : X.calm = true) (ha : DO X cls W a δa) (he : starEach [a] X.env = (false, eval a X.env) :: starEach [] X.env := by rfl) (hpl : (backTo pos (starEach [] X.env)).any (·.1) = false := by rfl) : DF X cls W (.Call (.Name "dict" p) [a] [] pos) (eUn dDictA δa) :=
  x_c1 back_RF (pe_callTy ((call_dictP hc).or call_dictD) hg hm (by decide +kernel) (da1 ha he) (by decide) (by decide) he hpl) rc_dictA
/-! ### v = d.pop(k), d a slot's own; d.pop(k, x), d in the store -/
def sPopO (i j : Nat) (k : De) : Ds := fun Γ S => match Γ[j]? with
  | some (.own (.dct _ _)) => after (k Γ S) Γ fun y S1 => match Γ[j]?, keyD y with
    | some (.own (.dct ks xs)), some q => match dGet ks xs q with
      | some d => .next ((Γ.set j (.own (.dct (dDropX q ks xs).1 (dDropX q ks xs).2))).set i (.val d)) S1
      | none => .stuck
    | _, _ => .stuck
  | _ => .stuck
theorem ds_popO {i : Nat} {x : Str} {pos' : Pos} (j : Nat) (hN : X.N.Nodup) (hi : X.N[i]? = some x) (hx : Loc X.env.scope x) (ho : PE X o (tVar j)) (hk : DE X cls W e ε) (m : M1 X o "pop" apos e cpos) (hs : swapsWith (.Call (.Attribute o "pop" apos) [e] [] cpos) (some (.Name x pos')) pos.line X.env = pure false := by rfl)
    (hf : X.fn x = true ∨ X.env.scope.names.lookup x = some .local := by first | exact .inl rfl | exact .inr rfl | assumption) : DS X cls W (.Assign [.Name x pos'] (.Call (.Attribute o "pop" apos) [e] [] cpos) pos) (sPopO i j ε) :=
  PS.weak (ps_set hN hi hx (pe_dpop1 ho hk m) hs hf) fun Dn σ H ⟨en, Γ, S, ρ, G, s, p⟩ => by
    unfold sPopO at p
    split at p
    · rename_i ks0 xs0 hj
      obtain ⟨b, vs0, e1, h1, _, r, g, n⟩ := own_dct s hj
      refine ⟨_, e1, b, rfl, .inl ⟨_, .inl h1⟩, Γ, S, ρ, G, s.mem, post_after s p fun dy S1 ρ1 G1 H1 y m1 n1 s1 r1 p1 => ?_⟩
      split at p1
      · rename_i ks xs q hj2 hq
        obtain ⟨b', vs, e', h1', hl', r', g', n'⟩ := own_dct s1 hj2
        rw [e1] at e'; cases e'
        split at p1
        · rename_i d hd
          have ek := keyD_v hq r1
          subst ek
          have z := dGet_val r' hl' q
          rw [hd] at z
          obtain ⟨v, ev, rv⟩ := z
          obtain ⟨us, d1, d2, d3⟩ := drop_zip q r' hl'
          exact ⟨_, q, v, h1', rfl, ev, p1 _ _ _ _ ((s1.poke (d' := .dct (dDropX q ks xs).1 (dDropX q ks xs).2) (o := .dK (dropK (ks.zip vs) q)) hj2 e1 ⟨us, by rw [upd_same, d1], d2, d3⟩).setv i rv)⟩
        · exact p1.elim
      · exact p1.elim
    · exact p.elim
def sPop2P (o k x : De) : Ds := fun Γ S => after (o Γ S) Γ fun v S1 => if isDct (deref S1 v) = true then after (k Γ S1) Γ fun y S2 => after (x Γ S2) Γ fun _ S3 => match v with
  | .ptr q => match S3[q]?, keyD y with
    | some (.dct ks xs), some kk => if (dGet ks xs kk).isSome = true then .next Γ (S3.set q (.dct (dDropX kk ks xs).1 (dDropX kk ks xs).2)) else .next Γ S3
    | _, _ => .stuck
  | _ => .stuck else .stuck
theorem ds_pop2P {f : Expr} (ho : DE X cls W o δo) (hk : DE X cls W e ε1) (hf : DE X cls W f ε2) (m : M2 X o "pop" apos e f cpos) (hs : swapsWith (.Call (.Attribute o "pop" apos) [e, f] [] cpos) none pos.line X.env = pure false := by rfl) :
    DS X cls W (.Expr (.Call (.Attribute o "pop" apos) [e, f] [] cpos) pos) (sPop2P δo ε1 ε2) := PS.weak (ps_expr (pe_dpop2 ho hk hf m) hs) fun Dn σ H ⟨en, Γ, S, ρ, G, s, p⟩ =>
  ⟨Γ, S, ρ, G, s.mem, post_after s p fun dv S1 ρ1 G1 H1 v m1 n1 s1 r1 p1 => by
    split at p1
    · rename_i hd
      obtain ⟨b, rfl, isd⟩ := isDct_rt hd (m1.read (H0 := H1) (.inl r1))
      refine ⟨b, rfl, isd, Γ, S1, ρ1, G1, s1.mem, post_after s1 p1 fun dy S2 ρ2 G2 H2 y m2 n2 s2 r2 p2 => ⟨Γ, S2, ρ2, G2, s2.mem, post_after s2 p2 fun dx S3 ρ3 G3 H3 x m3 n3 s3 r3 p3 => ?_⟩⟩
      split at p3
      · rename_i q
        split at p3
        · rename_i ks xs kk hx hkk
          obtain ⟨a, vs, e1, ha, h1, hl, rr⟩ := sto_dct m3 ((Rep.mono n2.ext n2.pre _ _ r1).mono n3.ext n3.pre) hx
          cases e1
          have ek := keyD_v hkk (r2.mono n3.ext n3.pre)
          subst ek
          have vz := valV_some rr hl kk
          refine ⟨_, kk, h1, rfl, fun w hw => ?_, fun hw => ?_⟩
          · rw [if_pos (by rw [← vz, hw]; rfl)] at p3
            obtain ⟨us, d1, d2, d3⟩ := drop_zip kk rr hl
            obtain ⟨m4, n4⟩ := m3.poke (a := b) (o := .dK (dropK (ks.zip vs) kk)) (d' := .dct (dDropX kk ks xs).1 (dDropX kk ks xs).2) hx ha ⟨us, by rw [upd_same, d1], d2, d3⟩
            exact p3 _ _ _ _ (s3.step m4 n4)
          · rw [if_neg (by rw [← vz, hw]; simp)] at p3
            exact p3 _ _ _ _ s3
        · exact p3.elim
      · exact p3.elim
    · exact p1.elim⟩
end
/-! ### for x in xs[-1], a dict -/
def iKL (i : Nat) : Da := fun Γ S => match Γ[i]? with
  | some (.val (.ptr q)) => match S[q]? with
    | some (.lst ds) => match ds.getLast? with
      | some (.dct ks _) => .ok (ks.map keyK) S
      | _ => .stuck
    | _ => .stuck
  | _ => .stuck
def LkL (i : Nat) (σ : L2.St) (H : Hp) : Prop := ∃ a vs d od kvs, σ[i]? = some (some (V.ref a)) ∧ H a = some (.lst vs) ∧ atI vs (-1) = some (V.ref d) ∧ H d = some (.frz od (.dK kvs))
section
variable {X : Cx} {cls : Nat → Addr} {W : WX} {tg : Expr} {x : Str} {p0 p1 p2 p3 pos : Pos} {k0 : Nat}
theorem atI_neg1' {α : Type} {xs : List α} : atI xs (-1) = xs.getLast? := by
  unfold atI ixN
  rw [if_neg (by omega)]
  by_cases h : 0 < xs.length
  · rw [if_pos (by omega)]
    have : (-1 + (xs.length : Int)).toNat = xs.length - 1 := by omega
    simp [this, List.getLast?_eq_getElem?]
  · have : xs = [] := List.eq_nil_of_length_eq_zero (by omega)
    subst this; rfl
/-- what the list's last dict is -/
theorem last_dct {C : Cn} {Γ : List Sl} {S : List D} {ρ : List Addr} {G H : Hp} {σ : L2.St} (m : Mem C Γ S ρ G H σ) {i q : Nat} {ds : List D} {ks : List Key} {xs : List D} (h1 : Γ[i]? = some (.val (.ptr q))) (h2 : S[q]? = some (.lst ds)) (h3 : ds.getLast? = some (.dct ks xs)) :
    ∃ a vs d ws, σ[i]? = some (some (V.ref a)) ∧ H a = some (.lst vs) ∧ atI vs (-1) = some (V.ref d) ∧ G d = some (.dK (ks.zip ws)) ∧ ks.length = ws.length ∧ a ∈ ρ := by
  obtain ⟨v, e, r⟩ := m.val i _ h1
  obtain ⟨a, vs, rfl, ha, hH, rr⟩ := sto_at m r h2
  have z : atI ds (-1) = some (.dct ks xs) := by rw [← h3]; exact atI_neg1'
  obtain ⟨w, hw, rw'⟩ := atI_reps rr z
  rw [Rep] at rw'
  obtain ⟨d, ws, rfl, g, l, r2⟩ := rw'
  exact ⟨a, vs, d, ws, e, hH, hw, g, l.trans r2.length, List.mem_of_getElem? ha⟩
theorem pi_kL (i : Nat) (hN : X.N[i]? = some x := by rfl) (hv : Vis X.env.scope x := by first | exact Or.inl rfl | exact Or.inr (Or.inl rfl) | exact Or.inr (Or.inr rfl)) (hd : (x == ("__debug__" : Str)) = false := by decide)
    (hcd : (x == ("__classdict__" : Str)) = false := by decide) : PI X tg (.Subscript (.Name x p0) (.UnaryOp .USub (.Constant (.int 1) k0 p1) p2) p3) (fun σ H R => LkL i σ H ∧ tI ⟨X.K, cls⟩ W (iKL i) σ H R) := PI.weak (pi_keys (pe_ix ix_seq (pv i hN hv hd hcd) (pe_un un_neg pe_int) (fun _ _ => rfl))) fun σ H R ⟨⟨a, vs, d, od, kvs, e, hl, hat, hfz⟩, Γ, S, ρ, G, m, q⟩ => by
  unfold iKL at q
  split at q
  · rename_i xs S1 z
    split at z
    · rename_i qq h1
      split at z
      · rename_i ds h2
        split at z
        · rename_i ks xs' h3
          cases z
          obtain ⟨a', vs', d', ws, e', hl', hat', g, l2, _⟩ := last_dct m h1 h2 h3
          rw [e] at e'; cases e'
          rw [hl] at hl'; cases hl'
          rw [hat] at hat'; cases hat'
          have hk := m.sub.dk g
          rcases hk with hk | ⟨ob, hk⟩
          · rw [hfz] at hk; cases hk
          · rw [hfz] at hk; cases hk
            refine ⟨_, e, _, rfl, ?_⟩
            exact .inl ⟨a, vs, -1, .ref d, rfl, rfl, SqL.of hl, hat, d, od, rfl, .inl ⟨_, hfz, q _ ρ G H m .refl (src_keys hfz rfl l2)⟩⟩
        · cases z
      · cases z
    · cases z
  · rename_i z
    split at z
    · split at z
      · split at z <;> cases z
      · cases z
    · cases z
  · exact q.elim
def sForKL (i : Nat) (p : Pat) (kl : List Nat) (β : Ds) : Ds := fun Γ S => noXc (sFor (iKL i) p kl β Γ S)
theorem ds_forKL {body : List Stmt} {p : Pat} {kl : List Nat} {β : Ds} (i : Nat) (hp : PassesOwn (model X.prog X.w) X.A X.env X.xe) (hc : X.calm = true) (hg : PG X tg (p.g X.K)) (hb : DSs X cls W body β)
    (hN : X.N[i]? = some x := by rfl) (hv : Vis X.env.scope x := by first | exact Or.inl rfl | exact Or.inr (Or.inl rfl) | exact Or.inr (Or.inr rfl)) (hd : (x == ("__debug__" : Str)) = false := by decide)
    (hcd : (x == ("__classdict__" : Str)) = false := by decide)
    (hs : ∀ y, foldedSetIterable (.Subscript (.Name x p0) (.UnaryOp .USub (.Constant (.int 1) k0 p1) p2) p3) X.env y = pure y := by intro _; rfl) : DS X cls W (.For tg (.Subscript (.Name x p0) (.UnaryOp .USub (.Constant (.int 1) k0 p1) p2) p3) body [] pos) (sForKL i p kl β) := by
  have base := ps_for (pos := pos) hp hc (pi_kL (cls := cls) (W := W) (p0 := p0) (p1 := p1) (p2 := p2) (p3 := p3) (k0 := k0) (tg := tg) i hN hv hd hcd) hg hb hs
  refine PS.weak (PS.or base (ps_lock base)) fun Dn σ H ⟨en, Γ, S, ρ, G, s, q⟩ => ?_
  unfold sForKL at q
  have nx : ∀ e Γ' S', sFor (iKL i) p kl β Γ S ≠ .exc e Γ' S' := fun e Γ' S' z => by rw [z] at q; exact q
  have q' : PostS ⟨X.K, cls⟩ W en Dn (sFor (iKL i) p kl β Γ S) := by
    cases z : sFor (iKL i) p kl β Γ S with
    | exc e Γ' S' => exact absurd z (nx e Γ' S')
    | _ => rw [z] at q; exact q
  obtain ⟨qq, ds, ks, xs, h1, h2, h3⟩ : ∃ qq ds ks xs, Γ[i]? = some (.val (.ptr qq)) ∧ S[qq]? = some (.lst ds) ∧ ds.getLast? = some (.dct ks xs) := by
    unfold sFor iKL at q'
    split at q'
    · rename_i qq h1
      split at q'
      · rename_i ds h2
        split at q'
        · rename_i ks xs h3; exact ⟨qq, ds, ks, xs, h1, h2, h3⟩
        · exact q'.elim
      · exact q'.elim
    · exact q'.elim
  obtain ⟨a, vs, d, ws, e1, hl, hat, g, l2, ar⟩ := last_dct s.mem h1 h2 h3
  have ne : a ≠ d := fun z => by have := s.mem.stG a ar; rw [z, g] at this; cases this
  rcases s.mem.sub.dk g with hk | ⟨od, hk⟩
  · refine .inr ⟨d, _, hk, trivial, fun od => ?_⟩
    obtain ⟨en', s', b1, b2⟩ := ent_lock s hk g od
    have q2 := post_lock (u := .dK (ks.zip ws)) rfl b1 b2 nx q'
    have := for_core s' q2
    exact ⟨⟨a, vs, d, od, _, e1, by rw [upd_ne ne]; exact hl, hat, upd_same⟩, this⟩
  · exact .inl ⟨⟨a, vs, d, od, _, e1, hl, hat, hk⟩, for_core s q'⟩
end
end DL

namespace DL
open PySem PySem.Spec PyProof.Rows L2
section
variable {X : Cx} {C : Cn} {cls : Nat → Addr} {W : WX} {a b c e o : Expr} {δa δb δc δo ε : De} {pos pos' p apos cpos : Pos}
/-! ### str(e) -/
def dStr : D → Option D
  | .int i => if i.natAbs.log2 < 1920 then some (.str (toString i)) else none
  | .str z => some (.str z)
  | _ => none
theorem rc_str : RC1 C (RS C) (fun xs H Q => (∃ i, xs = [.int i] ∧ i.natAbs.log2 < 1920 ∧ Q (.str (toString i)) H) ∨ ∃ z, xs = [.str z] ∧ Q (.str z) H) dStr := fun S ρ G H x d dx Q m rx e q => by
  cases dx <;> try cases e
  · rename_i i
    unfold dStr at e
    simp only at e
    split at e
    · rename_i hl
      cases e
      rw [rt_int] at rx; subst rx
      exact .inl ⟨_, rfl, hl, q _ _ _ _ m .refl (rep_str.mpr rfl)⟩
    · cases e
  · rw [rt_str] at rx; subst rx
    exact .inr ⟨_, rfl, q _ _ _ _ m .refl (rep_str.mpr rfl)⟩
theorem de_strc (hg : Gl X "str") (hm : X.mg "str" = none) (ha : DO X cls W a δa) (he : starEach [a] X.env = (false, eval a X.env) :: starEach [] X.env := by rfl) (hpl : (backTo pos (starEach [] X.env)).any (·.1) = false := by rfl) : DE X cls W (.Call (.Name "str" p) [a] [] pos) (eUn dStr δa) :=
  x_c1 back_RS (pe_callTy (call_str_int.or SkE.call_str_str) hg hm (by decide +kernel) (da1 ha he) (by decide) (by decide) he hpl) rc_str
/-! ### sep.join(texts) -/
def dJoin (z y : D) : Option D := match z with
  | .str z => match (match y with | .lst xs => asStrs xs | .tup xs => asStrs xs | _ => none) with
    | some l => if (l.map (·.length)).sum + l.length * z.length ≤ 16777216 then some (.str (Txt.join z l)) else none
    | none => none
  | _ => none
def isStr : D → Bool | .str _ => true | _ => false
def eJoin (a b : De) : De := fun Γ S => (a Γ S).bind fun x S1 => if isStr x = true then (b Γ S1).bind fun y S2 => ofO (dJoin x (deref S2 y)) S2 else .stuck
theorem isStr_rep {ρ : List Addr} {G : Hp} {d : D} {v : V} (h : isStr d = true) (r : Rep C ρ G d v) : ∃ z, d = .str z ∧ v = .str z := by
  cases d <;> try cases h
  exact ⟨_, rfl, rep_str.mp r⟩
theorem de_join (ha : DE X cls W a δa) (hb : DO X cls W b δb) (hs : starEach [b] X.env = [(false, eval b X.env)] := by rfl) (hbase : attributeBase a "join" X.env (eval a X.env) = eval a X.env := by rfl) (hline : (apos.endLine == pos.line) = true := by rfl) :
    DE X cls W (.Call (.Attribute a "join" apos) [b] [] pos) (eJoin δa δb) :=
  PE.weak (pe_join ha hb hs hbase hline) fun σ H Q ⟨Γ, S, ρ, G, m, p⟩ => by
    refine ⟨Γ, S, ρ, G, m, (Post.seq back_RS p).mono fun x H1 ⟨dx, S1, ρ1, G1, m1, n1, r1, p1⟩ => ?_⟩
    split at p1
    · rename_i hd
      obtain ⟨z, rfl, rfl⟩ := isStr_rep hd r1
      refine ⟨⟨z, rfl⟩, Γ, S1, ρ1, G1, m1, (Post.seq back_RS p1).mono fun y H2 ⟨dy, S2, ρ2, G2, m2, n2, r2, p2⟩ => ?_⟩
      obtain ⟨d, hd3, p4⟩ := ofO_post p2
      have rt := m2.read r2
      unfold dJoin at hd3
      simp only at hd3
      split at hd3
      · rename_i l hl
        split at hd3
        · rename_i hz
          cases hd3
          generalize deref S2 dy = q at rt hl
          cases q <;> try cases hl
          · obtain ⟨p0, vs, rfl, h1, rr⟩ := rt
            have e := reps_strs2 rr hl
            subst e
            exact ⟨z, p0, l, rfl, rfl, .inl (SqL.of h1), hz, p4.at m2 (rep_str.mpr rfl)⟩
          · rw [rt_tup] at rt
            obtain ⟨p0, vs, rfl, h1, rr⟩ := rt
            have e := reps_strs2 rr hl
            subst e
            exact ⟨z, p0, l, rfl, rfl, .inr (m2.sub.sqT h1), hz, p4.at m2 (rep_str.mpr rfl)⟩
        · cases hd3
      · cases hd3
    · exact p1.elim
end
end DL

namespace DL
open PySem PySem.Spec PyProof.Rows L2
section
variable {X : Cx} {C : Cn} {cls : Nat → Addr} {W : WX} {a b c e o : Expr} {δa δb δc δo ε : De} {pos pos' p apos cpos : Pos} {f : Str} {g : Nat → Bool}
/-! ### o.f += e, whole numbers -/
def sAttA (f : Str) (g : Nat → Bool) (o e : De) : Ds := fun Γ S => after (o Γ S) Γ fun x S1 => match x with
  | .ptr q => match S1[q]? with
    | some (.ins c ns xs) => if g c = true then match (ns.zip xs).lookup f with
      | some (.int i) => after (e Γ S1) Γ fun y S2 => match y, S2[q]? with
        | .int j, some (.ins c' ns' xs') => if c' = c ∧ ns'.length < 900 then .next Γ (S2.set q (.ins c' (putD f (.int (i + j)) ns' xs').1 (putD f (.int (i + j)) ns' xs').2)) else .stuck
        | _, _ => .stuck
      | _ => .stuck
      else .stuck
    | _ => .stuck
  | _ => .stuck
theorem ds_attA {value : Expr} (hg : ∀ c, g c = true → Cls X.K (cls (c + 3)) ∧ NoAttr X.K (cls (c + 3)) f) (ho : DE X cls W o δo) (hv : DE X cls W value ε) :
    DS X cls W (.AugAssign (.Attribute o f pos') .Add value pos) (sAttA f g δo ε) := PS.weak (ps_fldaug ho hv in_add) fun D σ H ⟨en, Γ, S, ρ, G, s, p⟩ =>
  ⟨Γ, S, ρ, G, s.mem, post_after s p fun dx S1 ρ1 G1 H1 x m1 n1 s1 r1 p1 => by
    cases dx with
    | ptr q =>
      simp only at p1
      split at p1
      · rename_i c ns xs hx
        split at p1
        · rename_i hgc
          split at p1
          · rename_i i hi
            obtain ⟨b, hb, rfl⟩ := rep_ptr.mp r1
            obtain ⟨b', hb', dxx, vs, h1, hl, rr⟩ := m1.sto q _ hx
            rw [hb] at hb'; cases hb'
            obtain ⟨v, hv2, rv⟩ := zip_lookup rr hi
            have ev := rep_int.mp rv
            refine ⟨b, _, dxx, _, v, rfl, h1, (hg c hgc).1, (hg c hgc).2, hv2, Γ, S1, ρ1, G1, s1.mem, post_after s1 p1 fun dy S2 ρ2 G2 H2 y m2 n2 s2 r2 p2 => ?_⟩
            split at p2
            · rename_i j c' ns' xs' hx2
              split at p2
              · rename_i hc
                obtain ⟨rfl, hlen⟩ := hc
                obtain ⟨b2, hb2, eb⟩ := rep_ptr.mp (r1.mono n2.ext n2.pre)
                cases eb
                obtain ⟨b', hb', dx2, vs2, k1, k2, k3⟩ := m2.sto q _ hx2
                rw [hb2] at hb'; cases hb'
                have ey := rep_int.mp r2
                obtain ⟨us, e1, e2, e3⟩ := putD_rep (f := f) (d := .int (i + j)) (v := V.int (i + j)) (C := ⟨X.K, cls⟩) (ρ := ρ2) (G := G2) (rep_int.mpr rfl) k3 k2
                obtain ⟨m4, n4⟩ := m2.poke (a := b) (o := .ins (cls (c' + 3)) dx2 (putF f (.int (i + j)) (ns'.zip vs2))) (d' := .ins c' (putD f (.int (i + j)) ns' xs').1 (putD f (.int (i + j)) ns' xs').2) hx2 hb2 ⟨dx2, us, by rw [upd_same, e1], e2, e3⟩
                exact ⟨i, j, ev, ey, dx2, _, k1, by rw [List.length_zip]; omega, p2 _ _ _ _ (s2.step m4 n4)⟩
              · exact p2.elim
            · exact p2.elim
          · exact p1.elim
        · exact p1.elim
      · exact p1.elim
    | _ => exact p1.elim⟩
/-! ### x.startswith(y, n) -/
def dSt3 (x y z : D) : Option D := match x, y, z with
  | .str a, .str b, .int i => some (.bl (Txt.startswith3 a b i))
  | _, _, _ => none
def eSt3 (a b c : De) : De := fun Γ S => (a Γ S).bind fun x S1 => if isStr x = true then (b Γ S1).bind fun y S2 => (c Γ S2).bind fun z S3 => ofO (dSt3 x y z) S3 else .stuck
def tM2 (r : V → List V → Hp → VK → Prop) (to te tf : TE) : TE := fun σ H Q => to σ H fun x H1 => (∃ a, x = .str a) ∧ te σ H1 fun y H2 => tf σ H2 fun z H3 => r x [y, z] H3 Q
theorem pe_m2 {id : String} {name : Str} {r : V → List V → Hp → VK → Prop} {to te tf : TE} (slot : Slot "str" name id) (ty : typeOf (.builtin id) = pure (.type "method_descriptor")) (rule : MtR X id r) (ho : PE X o to) (he : PE X b te) (hf : PE X c tf)
    (hs : starEach [b, c] X.env = [(false, eval b X.env), (false, eval c X.env)]) (hbase : attributeBase o name X.env (eval o X.env) = eval o X.env) (hline : (apos.endLine == pos.line) = true) :
    PE X (.Call (.Attribute o name apos) [b, c] [] pos) (tM2 r to te tf) := by
  refine ⟨fun pins s σ H Q I h => ?_⟩
  refine PySem.Call_method2 hbase hs hline (thn (ho.run pins s σ H _ I h) fun v s1 ⟨x, H1, I1, r1, q1⟩ => ?_)
  obtain ⟨⟨a, rfl⟩, q1⟩ := q1
  obtain ⟨t, rfl⟩ := _root_.id r1
  refine ⟨"str", _, F.plainAttrs_str, slot, ty, typeIs_str _ _ _, (fun _ e => nomatch e), Calls.callWith_builtin rfl (Calls.evalArgs_plain (Calls.spliced_cons ?_))⟩
  exact thn (he.run pins s1 σ H1 _ I1 q1) fun u s2 ⟨y, H2, I2, r2, q2⟩ => Calls.spliced_cons (thn (hf.run pins s2 σ H2 _ I2 q2) fun u3 s3 ⟨z, H3, I3, r3, q3⟩ => Calls.spliced_nil (rule pins s3 σ H3 _ [y, z] _ [u, u3] Q I3 r1 (.cons r2 (.cons r3 .nil)) q3))
theorem de_st3 (ha : DE X cls W a δa) (hb : DE X cls W b δb) (hc : DE X cls W c δc) (hs : starEach [b, c] X.env = [(false, eval b X.env), (false, eval c X.env)] := by rfl) (hbase : attributeBase a "startswith" X.env (eval a X.env) = eval a X.env := by rfl) (hline : (apos.endLine == pos.line) = true := by rfl) :
    DE X cls W (.Call (.Attribute a "startswith" apos) [b, c] [] pos) (eSt3 δa δb δc) :=
  PE.weak (pe_m2 F.slot_str_startswith F.type_str_startswith mt_startswith3 ha hb hc hs hbase hline) fun σ H Q ⟨Γ, S, ρ, G, m, p⟩ => by
    refine ⟨Γ, S, ρ, G, m, (Post.seq back_RS p).mono fun x H1 ⟨dx, S1, ρ1, G1, m1, n1, r1, p1⟩ => ?_⟩
    split at p1
    · rename_i hd
      obtain ⟨z, rfl, rfl⟩ := isStr_rep hd r1
      refine ⟨⟨z, rfl⟩, Γ, S1, ρ1, G1, m1, (Post.seq back_RS p1).mono fun y H2 ⟨dy, S2, ρ2, G2, m2, n2, r2, p2⟩ => ⟨Γ, S2, ρ2, G2, m2, (Post.seq back_RS p2).mono fun w H3 ⟨dz, S3, ρ3, G3, m3, n3, r3, p3⟩ => ?_⟩⟩
      obtain ⟨d, hd3, p4⟩ := ofO_post p3
      cases dy <;> try cases hd3
      cases dz <;> try cases hd3
      rw [rep_str.mp r2, rep_int.mp r3]
      exact ⟨z, _, _, rfl, rfl, p4.at m3 (rep_bl.mpr rfl)⟩
    · exact p1.elim
end
end DL

namespace DL
open PySem PySem.Spec PyProof.Rows L2
section
variable {X : Cx} {C : Cn} {cls : Nat → Addr} {W : WX}
/-! ### raise X(), X an own error without an __init__ -/
theorem pmk_own0 {C : Addr} {bmB : List Value} {B newId initId : String} {x : Str} {p pos : Pos} (F : ExcBaseFacts B newId initId bmB) (q : PySem.W.excIn X.K C bmB newId = true) (gC : X.mg x = some (.ref C)) (kC : PySem.W.keepIn X.K (.ref C) = true) (r : Raises X (.ref C)) (hg : Gl X x)
    (hdb : (x == ("__debug__" : Str)) = false := by decide) :
    PMk X (.Call (.Name x p) [] [] pos) (fun σ H Q => Q (.ref C) none H) := by
  intro pins s σ H Q I h
  refine wpAny_Call_Name_kw (ld_glob I hg gC ?_ hdb)
  refine PySem.W.callWith_K0 I.kIn kC ?_
  show wpAny _ _ (call (.ref C) []) _ _ _
  obtain ⟨bm, N, nm, qn, bs, hdct, sn, sub, ab, col, dd, k0, k1, k2, k3, k5, mN, hC, hN, hni, T⟩ := exc_obj I.kIn q
  refine wpAny_call_exc_subT F T hC hN hni (fun h' e hm => ?_) (by show 0 ≤ sizeLine; omega)
  exact mk_of I hm r h (I.hok.gone hm.new)
def sRaise0 (c : Nat) : Ds := fun Γ S => .exc ⟨c, [], []⟩ Γ S
@[simp] theorem x_sRaise0 {c : Nat} {Γ : List Sl} {S : List D} : sRaise0 c Γ S = .exc ⟨c, [], []⟩ Γ S := Eq.trans rfl rfl
theorem ds_raise0 {bmB : List Value} {B newId initId : String} {c : Nat} {x : Str} {p pos pos2 : Pos} (hc : X.calm = true) (F : ExcBaseFacts B newId initId bmB) (q : PySem.W.excIn X.K (cls (c + 3)) bmB newId = true) (gC : X.mg x = some (.ref (cls (c + 3)))) (kC : PySem.W.keepIn X.K (.ref (cls (c + 3))) = true)
    (r : Raises X (.ref (cls (c + 3)))) (tk : Takes X W) (hg : Gl X x) (hdb : (x == ("__debug__" : Str)) = false := by decide) :
    DS X cls W (.Raise (some (.Call (.Name x p) [] [] pos)) none pos2) (sRaise0 c) :=
  PS.weak (ps_raise hc tk (pmk_own0 F q gC kC r hg hdb)) fun Dn σ H ⟨en, Γ, S, ρ, G, s, p⟩ => p _ _ ρ _ _ σ s ⟨rfl, fun _ => rfl, fun z => absurd rfl z⟩
end
end DL

namespace DL
open PySem PySem.Spec PyProof.Rows L2
/-! ### [e for p in xs], xs an own list -/
def iO (i : Nat) : Da := fun Γ S => match Γ[i]? with
  | some (.own (.lst xs)) => .ok xs S
  | _ => .stuck
@[simp] theorem x_iO {i : Nat} {Γ : List Sl} {S : List D} : iO i Γ S = match Γ[i]? with
  | some (.own (.lst xs)) => .ok xs S
  | _ => .stuck := Eq.trans rfl rfl
section
variable {X : Cx} {cls : Nat → Addr} {W : WX}
theorem x_compO {i0 : Nat} {p : Pat} {τ : Dt} {ε : De} {vs : List Nat} (hv : ∀ i ∈ p.vars, i ∈ vs) {σ : L2.St} {H1 : Hp} {Q : VK} (h : tE ⟨X.K, cls⟩ W (RF ⟨X.K, cls⟩) (eComp (iO i0) p vs τ ε) σ H1 Q) :
    tLc (iList X.K (tVar i0)) (p.g X.K) (tT ⟨X.K, cls⟩ W0 τ) (tE ⟨X.K, cls⟩ W0 (RS ⟨X.K, cls⟩) ε) vs σ H1 Q := by
  obtain ⟨Γ, S1, ρ1, G1, m1, q⟩ := h
  unfold eComp at q
  cases z : iO i0 Γ S1 with
  | exc x S2 => unfold iO at z; split at z <;> cases z
  | stuck => rw [z] at q; exact q.elim
  | ok xs S2 =>
    have hΓ : Γ[i0]? = some (Sl.own (.lst xs)) ∧ S1 = S2 := by
      unfold iO at z
      split at z
      · rename_i ys e
        cases z
        exact ⟨e, rfl⟩
      · cases z
    obtain ⟨hΓ, rfl⟩ := hΓ
    rw [z] at q
    simp only [Res.bind_ok] at q
    obtain ⟨a, hσ, ⟨vs0, ha, ra⟩, _, _⟩ := m1.own i0 _ hΓ
    have at_ : ∀ S ρ G H, Mem ⟨X.K, cls⟩ Γ S ρ G H σ → ∃ vs1, H a = some (.lst vs1) ∧ Reps ⟨X.K, cls⟩ ρ G xs vs1 := fun S ρ G H ms => by
      obtain ⟨b, hb, ⟨v1, h1, r1⟩, _⟩ := ms.own i0 _ hΓ
      rw [hσ] at hb; cases hb
      exact ⟨v1, h1, r1⟩
    have goA : ∀ S ρ G H i, Mem ⟨X.K, cls⟩ Γ S ρ G H σ → i < xs.length → (Itl X.K a).go i H := fun S ρ G H i ms hi => by
      obtain ⟨v1, h1, r1⟩ := at_ S ρ G H ms
      exact ⟨v1, v1[i]'(by rw [← r1.length]; exact hi), SqL.of h1, List.getElem?_eq_getElem _⟩
    have yldA : ∀ S ρ G H i x H' d, Mem ⟨X.K, cls⟩ Γ S ρ G H σ → xs[i]? = some d → (Itl X.K a).yld i H x H' → ∃ G', MemS ⟨X.K, cls⟩ S ρ G' H' ∧ Nx ρ G H ρ G' H' ∧ Rep ⟨X.K, cls⟩ ρ G' d x := fun S ρ G H i x H' d ms hd y => by
      obtain ⟨v1, h1, r1⟩ := at_ S ρ G H ms
      obtain ⟨rfl, y⟩ := y
      obtain ⟨v, hv2, rv⟩ := r1.get hd
      have e := y v1 (SqL.of h1)
      rw [hv2] at e; cases e
      exact ⟨G, ms.toS, .refl, rv⟩
    have stopA : ∀ S ρ G H, Mem ⟨X.K, cls⟩ Γ S ρ G H σ → (Itl X.K a).stop xs.length H := fun S ρ G H ms => by
      obtain ⟨v1, h1, r1⟩ := at_ S ρ G H ms
      exact ⟨v1, SqL.of h1, by rw [r1.length]; exact Nat.le_refl _⟩
    refine ⟨_, hσ, a, rfl, ⟨vs0, SqL.of ha⟩, ?_⟩
    intro D0 hD
    have hown : ∀ (i : Nat) (d : D) (b : Addr), Γ[i]? = some (Sl.own d) → σ[i]? = some (some (V.ref b)) → b ≠ D0 := fun i d b h1 h2 e => by
      obtain ⟨b', e', r', _⟩ := m1.own i d h1
      rw [h2] at e'; cases e'
      obtain ⟨o, ho⟩ := r'.some
      rw [e, hD] at ho; cases ho
    have hownw : ∀ (i : Nat) (d : D) (b : Addr), (wipeD Γ vs)[i]? = some (Sl.own d) → (L2.wipe σ vs)[i]? = some (some (V.ref b)) → b ≠ D0 := fun i d b h1 h2 => by
      obtain ⟨k1, k2⟩ := wipeD_own h1
      rw [wipe_out2 k2] at h2
      exact hown i d b k1 h2
    have gD : G1 D0 = none := by
      cases e : G1 D0 with
      | none => rfl
      | some o => obtain ⟨_, z⟩ := m1.sub.has e; rw [z] at hD; cases hD
    have pD : D0 ∉ ρ1 := fun e => by
      obtain ⟨i, hi⟩ := List.mem_iff_getElem?.mp e
      have hi2 : i < S1.length := by rw [← m1.len]; exact (List.getElem?_eq_some_iff.mp hi).1
      obtain ⟨a, ha, r⟩ := m1.sto i S1[i] (List.getElem?_eq_getElem hi2)
      rw [hi] at ha; cases ha
      obtain ⟨o, ho⟩ := r.some
      rw [ho] at hD; cases hD
    -- the state of the loop
    let Pv : Nat → Hp → Prop := fun i H => ∃ S ρ G acc accd, Mem ⟨X.K, cls⟩ Γ S ρ G H σ ∧ H D0 = some (.lst acc) ∧ Reps ⟨X.K, cls⟩ ρ G accd acc ∧ D0 ∉ ρ ∧ G D0 = none ∧ Nx ρ1 G1 H1 ρ G H ∧
      compD p τ ε xs (wipeD Γ vs) S1 = (compD p τ ε (xs.drop i) (wipeD Γ vs) S).bind fun ds S3 => .ok (accd ++ ds) S3
    refine ⟨fun i mm H => mm = xs.length - i ∧ i ≤ xs.length ∧ Pv i H, ⟨xs.length, by omega, Nat.zero_le _, S1, ρ1, G1, [], [], m1.aside gD (noTE_of hD) pD hown, upd_same, .nil, pD, gD, Nx.refl.aside hD, ?_⟩, fun i mm H ⟨hm, hi, S, ρ, G, acc, accd, ms, hacc, racc, pD', gD', nn, eqn⟩ => ?_⟩
    · rw [List.drop_zero]
      cases compD p τ ε xs (wipeD Γ vs) S1 <;> rfl
    · have sub1 : Sub G1 G := nn.ext
      by_cases hlt : i < xs.length
      · rw [List.drop_eq_getElem_cons hlt, compD] at eqn
        refine .inr ⟨goA S ρ G H i ms hlt, Pv (i + 1), fun H' n => ⟨xs.length - (i + 1), by omega, rfl, hlt, n⟩, fun x H' y => ?_⟩
        obtain ⟨G', m', n', r'⟩ := yldA S ρ G H i x H' _ ms (List.getElem?_eq_getElem hlt) y
        have mH' := ms.step n' m'
        have mw := mH'.wipe vs
        cases hbd : p.bind xs[i] (wipeD Γ vs) with
        | none => rw [hbd] at eqn; rw [eqn] at q; exact q.elim
        | some Γ1 =>
          rw [hbd] at eqn
          simp only at eqn
          refine Pat.ok (C := ⟨X.K, cls⟩) p xs[i] x (wipeD Γ vs) Γ1 (L2.wipe σ vs) mw r' hbd _ fun σ2 m2 _ kp => ⟨?_, Γ1, S, ρ, G', m2, ?_⟩
          · rw [wipe_eq kp.1 fun j hj => kp.2 j fun h => hj (hv j h), wipe_eq (L2.wipe_length σ vs) fun j hj => wipe_out2 hj]
          · -- the test
            cases zt : τ Γ1 S with
            | exc x2 S2 => rw [zt] at eqn; rw [eqn] at q; exact q.elim
            | stuck => rw [zt] at eqn; rw [eqn] at q; exact q.elim
            | ok k S2 =>
              rw [zt] at eqn
              simp only [nox_ok, Res.bind_ok] at eqn
              intro kv ρ2 G2 H2 mm2 nn2 rk
              have ek : k = kv := rk
              subst ek
              have nnH : Nx ρ G H ρ2 G2 H2 := n'.trans nn2
              have mg2 : Mem ⟨X.K, cls⟩ Γ S2 ρ2 G2 H2 σ := ms.step nnH mm2.toS
              cases k with
              | false =>
                simp only [Bool.false_eq_true, if_false] at eqn
                refine iteF ⟨S2, ρ2, G2, acc, accd, mg2, nnH.keep _ _ (fun _ z => nomatch z) hacc pD', Reps.mono nnH.ext nnH.pre _ _ racc, fun z => ?_, ?_, nn.trans nnH, eqn⟩
                · rcases nnH.fre _ z with z | z
                  · exact pD' z
                  · rw [hacc] at z; cases z
                · cases e : G2 D0 with
                  | none => rfl
                  | some o => rcases nnH.new _ _ e with z | z
                              · rw [gD'] at z; cases z
                              · rw [hacc] at z; cases z
              | true =>
                simp only [if_true] at eqn
                refine iteT ⟨Γ1, S2, ρ2, G2, mm2, ?_⟩
                cases ze : ε Γ1 S2 with
                | exc x3 S3 => rw [ze] at eqn; rw [eqn] at q; exact q.elim
                | stuck => rw [ze] at eqn; rw [eqn] at q; exact q.elim
                | ok d S3 =>
                  rw [ze] at eqn
                  simp only [nox_ok, Res.bind_ok] at eqn
                  intro dv ρ3 G3 H3 mm3 nn3 rd
                  have nn4 : Nx ρ G H ρ3 G3 H3 := nnH.trans nn3
                  have hacc3 : H3 D0 = some (.lst acc) := nn4.keep _ _ (fun _ z => nomatch z) hacc pD'
                  have pD3 : D0 ∉ ρ3 := fun z => by
                    rcases nn4.fre _ z with z | z
                    · exact pD' z
                    · rw [hacc] at z; cases z
                  have gD3 : G3 D0 = none := by
                    cases e : G3 D0 with
                    | none => rfl
                    | some o => rcases nn4.new _ _ e with z | z
                                · rw [gD'] at z; cases z
                                · rw [hacc] at z; cases z
                  have mg3 : Mem ⟨X.K, cls⟩ Γ S3 ρ3 G3 H3 σ := ms.step nn4 mm3.toS
                  have eqn2 : compD p τ ε xs (wipeD Γ vs) S1 = (compD p τ ε (xs.drop (i + 1)) (wipeD Γ vs) S3).bind fun ds S3 => .ok ((accd ++ [d]) ++ ds) S3 := by
                    rw [eqn]
                    cases compD p τ ε (xs.drop (i + 1)) (wipeD Γ vs) S3 with
                    | ok ds S4 => simp only [Res.bind_ok, List.append_assoc, List.singleton_append]
                    | exc _ _ => rfl
                    | stuck => rfl
                  refine ⟨acc, hacc3, ?_, S3, ρ3, G3, acc ++ [dv], accd ++ [d], mg3.aside gD3 (noTE_lst hacc3) pD3 hown, upd_same, (Reps.mono nn4.ext nn4.pre _ _ racc).append (.cons rd .nil), pD3, gD3, (nn.trans nn4).aside hD, eqn2⟩
                  rw [eqn2] at q
                  cases zz : compD p τ ε (xs.drop (i + 1)) (wipeD Γ vs) S3 with
                  | exc _ _ =>
                    exfalso
                    have : ∀ (xs : List D) (Γ : List Sl) (S : List D) e S', compD p τ ε xs Γ S ≠ .exc e S' := by
                      intro xs
                      induction xs with
                      | nil => intro Γ S e S' h; cases h
                      | cons x xs ih =>
                        intro Γ S e S' h
                        rw [compD] at h
                        cases a1 : p.bind x Γ with
                        | none => rw [a1] at h; cases h
                        | some Γ1 =>
                          rw [a1] at h
                          simp only at h
                          cases a2 : τ Γ1 S with
                          | exc _ _ => rw [a2] at h; cases h
                          | stuck => rw [a2] at h; cases h
                          | ok k S1 =>
                            rw [a2] at h
                            simp only [nox_ok, Res.bind_ok] at h
                            cases k with
                            | false => exact ih _ _ _ _ (by simpa using h)
                            | true =>
                              simp only [if_true] at h
                              cases a3 : ε Γ1 S1 with
                              | exc _ _ => rw [a3] at h; cases h
                              | stuck => rw [a3] at h; cases h
                              | ok d S2 =>
                                rw [a3] at h
                                simp only [nox_ok, Res.bind_ok] at h
                                cases a4 : compD p τ ε xs Γ S2 with
                                | ok _ _ => rw [a4] at h; cases h
                                | stuck => rw [a4] at h; cases h
                                | exc _ _ => exact ih _ _ _ _ a4
                    exact this _ _ _ _ _ zz
                  | stuck => rw [zz] at q; exact q.elim
                  | ok ds S4 =>
                    rw [zz] at q
                    simp only [Res.bind_ok] at q
                    unfold lenOk at q
                    split at q
                    · rename_i hl
                      rw [List.length_append, List.length_append, List.length_singleton] at hl
                      rw [← racc.length]; omega
                    · exact q.elim
      · have e : i = xs.length := by omega
        subst e
        refine .inl ⟨stopA S ρ G H ms, ?_⟩
        rw [List.drop_length, compD] at eqn
        rw [eqn] at q
        simp only [Res.bind_ok, List.append_nil] at q
        unfold lenOk at q
        split at q
        · exact q _ ρ G H ms nn ⟨D0, rfl, pD', hD, gD', acc, hacc, racc⟩
        · exact q.elim
theorem df_compO {elt tg : Expr} {y : Str} {py : Pos} {ifs : List Expr} {scope : Scope} {own : List (Str × Nat)} {pos : Pos} {p : Pat} {τ : Dt} {ε : De} (i : Nat) (hc : X.calm = true) (hN : X.N.Nodup) (hi : PE X (.Name y py) (tVar i)) (ok : BlkOk X.N X.env.scope scope own) (hv : ∀ i ∈ p.vars, i ∈ own.map (·.2))
    (hg : ∀ (s : Shared) (H : Hp) (C : Addr) (cl : List (Str × Addr)) (fp : List Addr), PG (X.blk s H scope (compEnvC scope cl C X.env) fp) tg (p.g X.K)) (ht : ∀ (s : Shared) (H : Hp) (C : Addr) (cl : List (Str × Addr)) (fp : List Addr), DTs (X.blk s H scope (compEnvC scope cl C X.env) fp) cls ifs τ)
    (he : ∀ (s : Shared) (H : Hp) (C : Addr) (cl : List (Str × Addr)) (fp : List Addr), DE (X.blk s H scope (compEnvC scope cl C X.env) fp) cls W0 elt ε) (hs : ∀ x, foldedSetIterable (.Name y py) X.env x = pure x := by intro _; rfl) :
    DF X cls W (.ListComp elt [⟨tg, .Name y py, ifs, 0⟩] scope pos) (eComp (iO i) p (own.map (·.2)) τ ε) := PE.weak (pe_lc (tt := tT ⟨X.K, cls⟩ W0 τ) (te := tE ⟨X.K, cls⟩ W0 (RS ⟨X.K, cls⟩) ε) hc hN (pi_list hi) ok hg ht he hs) fun σ H Q h => x_compO hv h
end
end DL

namespace DL
open PySem PySem.Spec PyProof.Rows L2
/-! ### list comprehensions whose elements may raise -/
/-- an exception in the air of X; the frame that runs is L -/
def XF (Zf : Value → Option Addr → Obj → Prop) (X : Cx) (L : Addr) (W : WX) (u : Value) (s' : Shared) : Prop :=
  ∃ (a : Addr) (B : Heap) (sI : Shared) (pins : List (Addr × Obj)) (σ : L2.St) (H : Hp) (cls : Value) (d : Option Addr), u = .ref a ∧ Inv X pins σ H sI ∧
    (∀ b o, sI.heap.get? b = some o → b ∉ frs X.stack → B.get? b = some o) ∧ sI.heap.UpToSlots s'.heap ∧ Sky B X.stack a (Zf cls d) L s'.heap ∧ H a = none ∧ s'.os = sI.os ∧ AllBare s'.gens ∧ W cls d σ H
def TakesF (Zf : Value → Option Addr → Obj → Prop) (X : Cx) (L : Addr) (W : WX) : Prop := ∀ u s', XF Zf X L W u s' → X.xe u s'
theorem takesF_of {X : Cx} {W : WX} (tk : Takes X W) : TakesF Zc X X.env.locals W := fun u s' h => tk u s' h
theorem takesF_ofN {X : Cx} {W : WX} (tk : L2N.Takes X W) : TakesF L2N.Zn X X.env.locals W := fun u s' h => tk u s' h
theorem stZc (c : Value) (d : Option Addr) : PXN.Steady1 (Zc c d) := fun o v h => Zc.steady o _ h
theorem stZn (c : Value) (d : Option Addr) : PXN.Steady1 (L2N.Zn c d) := L2N.Zn.steady
/-- a call's exception is taken -/
def PassA (X : Cx) (W : WX) : Prop := ∀ σ, PassesAt (L2.CX X.prog X.w) X σ (WE W σ)
theorem passA_of {X : Cx} {W : WX} (tk : Takes X W) : PassA X W := passAt tk
def PassN (X : Cx) (W : WX) : Prop := ∀ σ, PassesAt (L2N.CX X.prog X.w) X σ (WE W σ)
theorem passN_of {X : Cx} {W : WX} (tk : L2N.Takes X W) : PassN X W := L2N.passAt tk
def CXZ (Zf : Value → Option Addr → Obj → Prop) (P : Program) (w : World) (outer : List Env) (H : Hp) (s : Shared) (E : XK) (u : Value) (s' : Shared) : Prop :=
  ∃ (a : Addr) (B : Heap) (H' : Hp) (cls : Value) (d : Option Addr), u = .ref a ∧ HandSPX.FlyingZ B outer a (Zf cls d) s'.heap ∧ HOk P w H' B ∧ UB (frs outer) H H' s.heap B s'.heap ∧ H' a = none ∧ s'.os = s.os ∧ AllBare s'.gens ∧ E cls d H'
structure FrOk (X : Cx) (L : Addr) : Prop where
  st : ∃ e0 o0, X.stack = e0 :: o0 ∧ e0.frame = some L
  ef : X.env.frame = some L
theorem note_eq {x : Value} {e e0 : Env} (h : e.frame = e0.frame) : noteFrame x e = noteFrame x e0 := by
  unfold noteFrame PySem.frameOf
  rw [h]
theorem frames_at {h h' B : Heap} : ∀ {l : List Env}, h.FunFrames B l → (∀ b ∈ frs l, h'.get? b = h.get? b) → h'.FunFrames B l
  | [], _, _ => trivial
  | env :: l, hf, k => by
    obtain ⟨hk, ⟨L, o, he, hb, ho, hd⟩, hr⟩ := hf
    refine ⟨hk, ⟨L, o, he, hb, ?_, hd⟩, frames_at hr fun b hm => k b ?_⟩
    · rw [k L (List.mem_filterMap.mpr ⟨env, List.mem_cons_self, he⟩)]; exact ho
    · obtain ⟨e, h1, h2⟩ := List.mem_filterMap.mp hm
      exact List.mem_filterMap.mpr ⟨e, List.mem_cons_of_mem _ h1, h2⟩
theorem iteT_inv {a b : Prop} (h : if true = true then a else b) : a := by simpa using h
section
variable {X : Cx} {pins : List (Addr × Obj)} {σ : L2.St} {H : Hp} {s s' : Shared} {W : WX} {E : XK}
theorem XF.of_call {Zf : Value → Option Addr → Obj → Prop} {L : Addr} (I : Inv X pins σ H s) (hW : ∀ cls d H', E cls d H' → W cls d σ H') {u : Value} (c : CXZ Zf X.prog X.w X.stack H s E u s') : XF Zf X L W u s' := by
  obtain ⟨a, B, H', cls, d, rfl, fl, hok, ub, na, os, ag, hE⟩ := c
  have st : B.StaysIn s'.heap := fl.1
  obtain ⟨G, g1, g2⟩ := restrict s'.heap fun b => (B.get? b).isSome || decide (b ∈ frs X.stack)
  have inB : ∀ b o, B.get? b = some o → G.get? b = some o := fun b o e => by rw [g1 b (by simp [e])]; exact st b o e
  have inF : ∀ b, b ∈ frs X.stack → G.get? b = s'.heap.get? b := fun b hb => g1 b (by simp [hb])
  have back : ∀ b o, G.get? b = some o → s'.heap.get? b = some o ∧ ((B.get? b).isSome = true ∨ b ∈ frs X.stack) := fun b o e => by
    by_cases q : ((B.get? b).isSome || decide (b ∈ frs X.stack)) = true
    · rw [g1 b q] at e; exact ⟨e, by simpa [Bool.or_eq_true] using q⟩
    · rw [g2 b (by simpa using q)] at e; cases e
  refine ⟨a, B, { s with heap := G, gens := s'.gens, drawn := s'.drawn, toks := s'.toks }, pins, σ, H', cls, d, rfl, ?_, fun b o e hb => ?_, Heap.UpToSlots.of_keeps fun b o e => (back b o e).1, .inr (.inl fl), na, os, ag, hW _ _ _ hE⟩
  · refine I.call (ch := []) ⟨fun b o e n hb _ => inB b o (ub.keep b o e n hb), fun b o e n hb _ => ?_, fun b o e n _ => ub.free b o e n, fun b o e _ => ?_, ub.tups, ub.frzs, ub.tbls⟩ (hok.kept inB) ag (fun _ z => nomatch z)
    · obtain ⟨sl, q⟩ := ub.slot b o e hb
      exact ⟨sl, (inF b hb).trans q⟩
    · by_cases hb : b ∈ frs X.stack
      · obtain ⟨sl, q⟩ := ub.slot b o e hb
        exact ⟨_, (inF b hb).trans q⟩
      · obtain ⟨o', q⟩ := ub.there b o e hb
        exact ⟨o', inB b o' q⟩
  · obtain ⟨e', h | h⟩ := back b o e
    · obtain ⟨o', q⟩ := Option.isSome_iff_exists.mp h
      have z := st b o' q
      rw [e'] at z; cases z
      exact q
    · exact absurd h hb
theorem passN_F {L : Addr} (tk : TakesF L2N.Zn X L W) : PassN X W := fun σ _ _ _ e s' I c => tk e s' (XF.of_call I (fun _ _ _ h => h) c)
theorem passA_F {L : Addr} (tk : TakesF Zc X L W) : PassA X W := fun σ _ _ _ e s' I c => tk e s' (XF.of_call I (fun _ _ _ h => h) c)
/-- the block's context -/
abbrev blkx (X : Cx) (s : Shared) (H : Hp) (scope : Scope) (ce : Env) (fp : List Addr) (xe : Value → Shared → Prop) : Cx := (X.blk s H scope ce fp).wish xe
theorem frOk_blk {L : Addr} (f : FrOk X L) {s : Shared} {H : Hp} {scope : Scope} {cl : List (Str × Addr)} {C : Addr} {fp : List Addr} {xe : Value → Shared → Prop} : FrOk (blkx X s H scope (compEnvC scope cl C X.env) fp xe) L := ⟨f.st, f.ef⟩
/-- what the block lets out, the def takes -/
theorem takes_blk {Zf : Value → Option Addr → Obj → Prop} (hZ : ∀ c d, PXN.Steady1 (Zf c d)) {L : Addr} (f : FrOk X L) (tk : TakesF Zf X L W) {s3 : Shared} {H3 : Hp} {scope : Scope} {cl : List (Str × Addr)} {C : Addr} {fp : List Addr} {xe : Value → Shared → Prop} (I3 : Inv X pins σ H3 s3) (hC : s3.heap.objs.size ≤ C) (f3 : ∀ b ∈ fp, FpOk X pins H3 b)
    (hxe : ∀ u s', notedBy (model X.prog X.w) X.A (compEnvC scope cl C X.env) (CompFails (model X.prog X.w) X.A X.xe (compEnvC scope cl C X.env)) u s' → xe u s') :
    TakesF Zf (blkx X s3 H3 scope (compEnvC scope cl C X.env) fp xe) L (fun c d _ H => W c d σ H) := by
  rintro u s' ⟨a, B, sI, pins', σ', H, cls, d, rfl, I, nb, up, sky, na, os, ag, w⟩
  refine hxe _ _ ?_
  generalize hce : compEnvC scope cl C X.env = ce at I nb sky ⊢
  have cL : ce.locals = C := by subst hce; rfl
  have cf : ce.frame = some L := by subst hce; exact f.ef
  obtain ⟨e0, o0, hst, h0⟩ := f.st
  have hfr : X.A.frames = some (e0 :: o0) := by have := I.ok.frames; rw [← hst]; exact this
  have ne : noteFrame (.ref a) ce = noteFrame (.ref a) e0 := note_eq (cf.trans h0.symm)
  have sky : Sky B X.stack a (Zf cls d) L s'.heap := sky
  have nb : ∀ b o, sI.heap.get? b = some o → b ∉ frs X.stack → B.get? b = some o := nb
  rw [hst] at sky
  -- the block's names
  have nfr : ∀ b ∈ frs X.stack, b ≠ C := fun b hb => by
    obtain ⟨_, o, e, _⟩ := I3.stack.mem hb
    exact Nat.ne_of_lt (Nat.lt_of_lt_of_le (Heap.lt_size e) hC)
  have CnF : C ∉ frs X.stack := fun h => nfr C h rfl
  obtain ⟨m, hn, _⟩ := I.loc
  have hn : sI.heap.Ns ce.locals m := hn
  rw [cL] at hn
  have nsB : B.Ns C m := by
    obtain ⟨o, es, ep, e, r⟩ := hn
    exact ⟨o, es, ep, nb C o e CnF, r⟩
  obtain ⟨oC, _, _, eC, _⟩ := id nsB
  have nC : H C = none := by have z : H ce.locals = none := I.free; rw [cL] at z; exact z
  have I7 : Inv X pins σ H sI := I3.call' (ch := fp) I.os I.base I.hok I.bare fun b hb => ⟨(f3 b hb).2.2.2.1, (f3 b hb).2.1, (f3 b hb).2.2.2.2.1, (f3 b hb).2.2.2.2.2⟩
  obtain ⟨q0, q1, q2, q3, q4, q5⟩ := I3.fpOk (H' := H) hC nC
  have fin : ∀ h1, HandSPX.HeldZ B (e0 :: o0) a (Zf cls d) L h1 → s'.heap.UpToSlots h1 → CompFails (model X.prog X.w) X.A X.xe ce (.ref a) { s' with heap := h1 } := fun h1 hh up1 => by
    obtain ⟨k1, k2, k3, oe, vs, T, oT, ts, he, hz, hd, hv, hnT, hTe, hT, hdT, h3⟩ := hh
    refine ⟨m, by rw [cL]; exact nsB.keeps k1, fun h' m' _ sb => ?_⟩
    rw [cL] at sb
    have aC : a ≠ C := fun z => by rw [z, eC] at k2; cases k2
    have TC : T ≠ C := fun z => by rw [z, eC] at hnT; cases hnT
    have he' : h'.get? a = some oe := (sb.2 a aC).trans he
    have hT' : h'.get? T = some oT := (sb.2 T TC).trans hT
    unfold PySem.passOn
    refine wpAny_bind (wpAny_field he' hd hv ?_)
    rw [if_neg (show ¬ ((Value.ref T == Value.none) = true) by simp)]
    have B' : ∀ b o, (PySem.W.hideAll B [C]).get? b = some o → b ≠ C ∧ B.get? b = some o := fun b o e => ⟨fun z => absurd e (by rw [z, PySem.W.hideAll_none [C] (List.mem_singleton.mpr rfl)]; simp), PySem.W.of_hideAll _ e⟩
    have B0 : ∀ b, B.get? b = none → (PySem.W.hideAll B [C]).get? b = none := fun b e => by
      cases q : (PySem.W.hideAll B [C]).get? b with
      | none => rfl
      | some o => rw [(B' b o q).2] at e; cases e
    refine wpAny_bind (HandSPX.setFlight_anyZ (base := PySem.W.hideAll B [C]) (l := e0 :: o0) (Z := Zf cls d) (fl := rawInt L) (fun b o e => ?_) ?_ ⟨oe, vs, T, oT, ts, he', hz, hd, hv, B0 T hnT, hTe, hT', hdT, h3⟩ fun h4 r1 r2 r3 r4 => ?_)
    · obtain ⟨n, e⟩ := B' b o e
      exact (sb.2 b n).trans (k1 b o e)
    · refine frames_at (funFrames_none k3 fun b hb => B0 b (k3.mem hb).1) fun b hb => sb.2 b (nfr b ?_)
      rw [hst]; exact hb
    · rw [cf] at r3
      refine wpAny_throw (tk _ _ ⟨a, PySem.W.hideAll B [C], { sI with heap := PySem.W.hideAll sI.heap [C] }, pins, σ, H, cls, d, rfl, ?_, fun b o e hb => ?_, ?_, .inr (.inr ?_), na, os, ag, w⟩)
      · exact I7.turned (t' := sI.toks) (fun b o hb e => PySem.W.hideAll_get _ e (by simpa using hb)) q0 q1 q3 q4 q5
      · have e1 := PySem.W.of_hideAll _ e
        refine PySem.W.hideAll_get _ (nb b o e1 hb) fun z => ?_
        rw [List.mem_singleton.mp z, PySem.W.hideAll_none [C] (List.mem_singleton.mpr rfl)] at e; cases e
      · intro b o e hnf
        have e1 := PySem.W.of_hideAll _ e
        have bC : b ≠ C := fun z => by rw [z, PySem.W.hideAll_none [C] (List.mem_singleton.mpr rfl)] at e; cases e
        obtain ⟨sl1, u1⟩ := up b o e1 hnf
        obtain ⟨sl2, u2⟩ := up1 b _ u1 hnf
        have u3 : h'.get? b = some { o with slots := sl2 } := (sb.2 b bC).trans u2
        obtain ⟨sl3, u4⟩ := r4 b _ u3 hnf
        exact ⟨sl3, u4⟩
      · rw [hst]; exact ⟨r1, B0 a k2, r2, r3⟩
  show wpAny (model X.prog X.w) X.A (noteFrame (.ref a) ce) (fun _ s2 => CompFails (model X.prog X.w) X.A X.xe ce (.ref a) s2) _ s'
  rw [ne]
  rcases sky with ⟨hB, hna, hl, oe, vs, he, hz, hd, h1⟩ | fl | hh
  · exact PXN.look_newZ (hZ _ _) hfr hl h0 he hB hna hd h1 hz fin
  · exact PXN.looks_onZ (hZ _ _) hfr h0 fl fin
  · exact HandSPX.againZ h0 hh.2.2.2 (fin s'.heap hh (Heap.UpToSlots.refl _))
/-- [e for t in xs if c], the element may raise -/
theorem lcX_core {Zf : Value → Option Addr → Obj → Prop} (hZ : ∀ c d, PXN.Steady1 (Zf c d)) {L : Addr} {Q : VK} {elt tg iter : Expr} {ifs : List Expr} {scope : Scope} {own : List (Str × Nat)} {pos pos' : Pos} {wi : TI} {g : TG} {tt : TT} {te : WX → TE} {use : Option (Value → Sem Unit)} {Qf : Value → Shared → Prop}
    (f : FrOk X L) (tk : TakesF Zf X L W) (hc : X.calm = true) (hN : X.N.Nodup) (I : Inv X pins σ H s) (hi : PI X tg iter wi) (ok : BlkOk X.N X.env.scope scope own)
    (hg : ∀ (s : Shared) (H : Hp) (C : Addr) (cl : List (Str × Addr)) (fp : List Addr), PG (X.blk s H scope (compEnvC scope cl C X.env) fp) tg g)
    (ht : ∀ (s : Shared) (H : Hp) (C : Addr) (cl : List (Str × Addr)) (fp : List Addr), PTs (X.blk s H scope (compEnvC scope cl C X.env) fp) ifs tt)
    (he : ∀ (s : Shared) (H : Hp) (C : Addr) (cl : List (Str × Addr)) (fp : List Addr) (xe : Value → Shared → Prop) (W2 : WX), TakesF Zf (blkx X s H scope (compEnvC scope cl C X.env) fp xe) L W2 → PE (blkx X s H scope (compEnvC scope cl C X.env) fp xe) elt (te W2))
    (hs : ∀ x, foldedSetIterable iter X.env x = pure x) (h : tLc wi g tt (te fun c d _ H => W c d σ H) (own.map (·.2)) σ H Q)
    (hRR : ∀ D cl C s' m H', Inv X pins σ H' s' → Q (.ref D) H' → s'.heap.Ns C m → FpOk X pins H' C → compEnds (model X.prog X.w) X.A X.xe use Qf (.ref D) (compEnvC scope cl C X.env) (.ok .next) s') :
    wpAny (model X.prog X.w) X.A (comprehension (.ListComp elt [⟨tg, iter, ifs, 0⟩] scope pos) scope X.env pos' (newList []) false (eval iter X.env) use) Qf X.xe s := by
  have cap : ∀ y ∈ scope.names, y.2 = .free → ∃ c, X.env.cells.lookup y.1 = some c := fun y hy e => (ok.free y hy e).elim (fun k => I.ok.has _ (.inl k)) fun k => I.ok.has _ (.inr k)
  refine comprehension_at (use := use) rfl hs (closure_ok cap) ok.kind (fun y hy e => by rw [ok.uniq y hy, e]) (thn (hi.run pins s σ H _ I h) fun xv s1 hx => thn hx fun itv s2 h2 => ?_)
  obtain ⟨it, fp, tn, J, H2, rfl, I2, T, st2, f2, q⟩ := h2
  refine wpAny_newObj_type (newEnv_comp ?_) (show 0 ≤ sizeLine by decide)
  have hDn : H2 s2.heap.objs.size = none := I2.hok.fresh (Nat.le_refl _)
  obtain ⟨W1, ⟨m0, w0⟩, turn⟩ := q _ hDn
  generalize hD : s2.heap.objs.size = D at w0 turn hDn ⊢
  generalize hs3 : ({ s2 with heap := s2.heap.push { cls := .type "list", data := .seq ([] : List Value).toArray } } : Shared) = s3
  have h3 : s3.heap = s2.heap.push { cls := .type "list", data := .seq ([] : List Value).toArray } := hs3 ▸ rfl
  have I3 : Inv X pins σ (upd H2 D (.lst [])) s3 := by
    subst hs3
    exact I2.laid (t' := s2.toks) (fun b o e => Heap.get?_push_of_some _ e) (Nat.le_of_eq hD) ⟨Nat.zero_le _, [], 0, .nil, by subst hD; exact Heap.get?_push_size _ rfl⟩
  have f3 : ∀ b ∈ fp, FpOk X pins (upd H2 D (.lst [])) b ∧ b < s3.heap.objs.size := fun b hb => by
    obtain ⟨o, e, _⟩ := T.obj _ _ st2 b hb
    have hlt := Heap.lt_size e
    exact ⟨⟨(upd_ne (by rw [← hD]; exact Nat.ne_of_lt hlt)).trans (f2 b hb).1, (f2 b hb).2⟩, by rw [h3, Heap.size_push]; exact Nat.lt_succ_of_lt hlt⟩
  have st3 : tn 0 s3.heap := T.keep _ _ _ st2 fun b _ o e => h3 ▸ Heap.get?_push_of_some _ e
  have I4 := block_start I3 ok hN f3
  have nfp : ∀ b ∈ fp, (upd H2 D (.lst [])) b = none := fun b hb => (f3 b hb).1.1
  generalize hcl : cellsFrom (s3.heap.objs.size + 1) scope.names (cloFrom X.env.cells scope.names []) = cl at I4
  generalize hH3 : upd H2 D (.lst []) = H3 at I3 I4 w0 nfp f3
  have pg := hg s3 H3 s3.heap.objs.size cl fp
  have pt := ht s3 H3 s3.heap.objs.size cl fp
  have tb := takes_blk (xe := notedBy (model X.prog X.w) X.A (compEnvC scope cl s3.heap.objs.size X.env) fun e s' => compEnds (model X.prog X.w) X.A X.xe use Qf (.ref D) (compEnvC scope cl s3.heap.objs.size X.env) (.error e) s')
    (scope := scope) (cl := cl) hZ f tk I3 (Nat.le_refl _) (fun b hb => (f3 b hb).1) (fun u s' hh => wpAny_mono hh (fun _ _ z => by cases use <;> exact z) fun _ _ z => by cases use <;> exact z)
  have pe := he s3 H3 s3.heap.objs.size cl fp _ _ tb
  show codeAny _ _ (.compStart (.ListComp elt [⟨tg, iter, ifs, 0⟩] scope pos) 0 (.ref it) (.ref D) (compEnvC scope cl s3.heap.objs.size X.env)) (compEnds (model X.prog X.w) X.A X.xe use Qf (.ref D) (compEnvC scope cl s3.heap.objs.size X.env)) { s3 with heap := pushCells (s3.heap.push { cls := .type "dict", data := .dict #[] }) scope.names }
  have ends := hRR D cl s3.heap.objs.size
  generalize hce : compEnvC scope cl s3.heap.objs.size X.env = ce at I4 pg pt pe ends ⊢
  have cL : ce.locals = s3.heap.objs.size := hce ▸ rfl
  generalize hs4 : ({ s3 with heap := pushCells (s3.heap.push { cls := .type "dict", data := .dict #[] }) scope.names } : Shared) = s4 at I4 ⊢
  have st4 : tn 0 s4.heap := T.keep _ _ _ st3 fun b _ o e => hs4 ▸ pushCells_keeps _ _ _ _ (Heap.get?_push_of_some _ e)
  have stat : ∀ {σ' : L2.St} {H' : Hp} {s' : Shared}, Inv (X.blk s3 H3 scope ce fp) [] σ' H' s' → (∀ b ∈ fp, H' b = none) → ∀ b ∈ fp, FpOk (X.blk s3 H3 scope ce fp) [] H' b := fun {σ' H' s'} I' hn b hb =>
    ⟨hn b hb, (I'.ok.exf b hb).1, I'.ok.exfs b hb, .inl hb, fun x c e => (I'.ok.exf b hb).2 x c e, fun p hp => absurd (show p ∈ ([] : List (Addr × Obj)) ++ [] from hp) (by simp)⟩
  have loop : codeAny (model X.prog X.w) X.A (.compLoop (.ListComp elt [⟨tg, iter, ifs, 0⟩] scope pos) 0 (.ref it) (.ref D) ce) (compEnds (model X.prog X.w) X.A X.xe use Qf (.ref D) ce) s4 := by
    refine compLoop_any (fun n s' => ∃ i H', Inv (X.blk s3 H3 scope ce fp) [] (L2.wipe σ (own.map (·.2))) H' s' ∧ tn i s'.heap ∧ (∀ b ∈ fp, H' b = none) ∧ W1 i n H') (fun n s5 ⟨i, H5, I5, st5, n5, w5⟩ => ?_) m0 ⟨0, H3, I4, st4, nfp, w0⟩
    rcases turn i n H5 w5 with ⟨stop, qq⟩ | ⟨go, Nx, hNx, step⟩
    · refine thnF (T.done (X.blk s3 H3 scope ce fp) rfl rfl rfl hc i [] s5 _ H5 (fun _ _ => False) I5 (stat I5 n5) st5 stop) fun r s6 ⟨hr, I6⟩ => ?_
      subst hr
      have I7 : Inv X pins σ H5 s6 := I3.call' (ch := fp) I6.os I6.base I6.hok I6.bare fun b hb => let z := (f3 b hb).1; ⟨z.2.2.2.1, z.2.1, z.2.2.2.2.1, z.2.2.2.2.2⟩
      have nC : H5 s3.heap.objs.size = none := by rw [← cL]; exact I6.free
      obtain ⟨m, hn, _⟩ := I6.loc
      exact ends s6 m H5 I7 qq (by rw [← cL]; exact hn) (I3.fpOk (Nat.le_refl _) nC)
    · refine thnF (T.item (X.blk s3 H3 scope ce fp) rfl rfl rfl hc i [] s5 _ H5 (fun _ _ => False) I5 (stat I5 n5) st5 go) fun r s6 ⟨u, hr, h6⟩ => ?_
      subst hr
      refine thnF h6 fun _ s7 ⟨x, H7, I7, r7, y7, st7, n7⟩ => thnF (pg.run _ s7 _ H7 x u _ (I7.pinned (stat I7 n7) (T.obj _ _ st7)) r7 (step x H7 y7)) fun _ s8 ⟨σ8, H8, I8, hw8, q8⟩ => ?_
      refine thnF (pt.run _ s8 σ8 H8 _ I8 q8) fun b s9 ⟨H9, I9, q9⟩ => ?_
      have fin : ∀ {s' : Shared} {H' : Hp}, Inv (X.blk s3 H3 scope ce fp) ([] ++ pinsAt fp s7.heap) σ8 H' s' → Nx H' → ∃ m, m < n ∧ ∃ i H', Inv (X.blk s3 H3 scope ce fp) [] (L2.wipe σ (own.map (·.2))) H' s' ∧ tn i s'.heap ∧ (∀ b ∈ fp, H' b = none) ∧ W1 i m H' := fun {s' H'} I' nx => by
        obtain ⟨m', hm, w'⟩ := hNx H' nx
        have pinned : ∀ b ∈ fp, ∀ o, s7.heap.get? b = some o → s'.heap.get? b = some o ∧ H' b = none := fun b hb o e => let z := I'.pin (b, o) (List.mem_append_right _ (List.mem_append_right _ (mem_pinsAt hb e))); ⟨z.1, z.2.1⟩
        refine ⟨m', hm, i + 1, H', (I'.unpinned (pins := [])).weak (by rw [← hw8, L2.wipe_length]) (fun j v e => by rw [← hw8] at e; exact (wipe_some e).1), T.keep _ _ _ st7 fun b hb o e => (pinned b hb o e).1, fun b hb => ?_, w'⟩
        obtain ⟨o, e, _⟩ := T.obj _ _ st7 b hb
        exact (pinned b hb o e).2
      cases b with
      | false => exact fin I9 (by simpa using q9)
      | true =>
        subst hce
        have q9 := (iteT_inv q9)
        refine thn (pe.run _ s9 σ8 H9 _ (I9.wish _) q9) fun z s10 ⟨yv, H10, I10, r10, acc, hD10, hz10, nx⟩ => ?_
        exact app_ok (X := X.blk s3 H3 scope _ fp) I10.unwish hD10 hz10 r10 fun s11 I11 => fin I11 nx
  exact codeAny_compStart_list loop (T.self X.A 0 _ _ _ st4 loop)
theorem pe_lcX {Zf : Value → Option Addr → Obj → Prop} (hZ : ∀ c d, PXN.Steady1 (Zf c d)) {L : Addr} {elt tg iter : Expr} {ifs : List Expr} {scope : Scope} {own : List (Str × Nat)} {pos : Pos} {wi : TI} {g : TG} {tt : TT} {te : WX → TE} (f : FrOk X L) (tk : TakesF Zf X L W) (hc : X.calm = true) (hN : X.N.Nodup) (hi : PI X tg iter wi) (ok : BlkOk X.N X.env.scope scope own)
    (hg : ∀ (s : Shared) (H : Hp) (C : Addr) (cl : List (Str × Addr)) (fp : List Addr), PG (X.blk s H scope (compEnvC scope cl C X.env) fp) tg g)
    (ht : ∀ (s : Shared) (H : Hp) (C : Addr) (cl : List (Str × Addr)) (fp : List Addr), PTs (X.blk s H scope (compEnvC scope cl C X.env) fp) ifs tt)
    (he : ∀ (s : Shared) (H : Hp) (C : Addr) (cl : List (Str × Addr)) (fp : List Addr) (xe : Value → Shared → Prop) (W2 : WX), TakesF Zf (blkx X s H scope (compEnvC scope cl C X.env) fp xe) L W2 → PE (blkx X s H scope (compEnvC scope cl C X.env) fp xe) elt (te W2))
    (hs : ∀ x, foldedSetIterable iter X.env x = pure x := by intro _; rfl) : PE X (.ListComp elt [⟨tg, iter, ifs, 0⟩] scope pos) (fun σ H Q => tLc wi g tt (te fun c d _ H => W c d σ H) (own.map (·.2)) σ H Q) := by
  refine ⟨fun pins s σ H Q I h => ?_⟩
  rw [eval_ListComp]
  refine lcX_core hZ f tk hc hN I hi ok hg ht he hs h fun D cl C s' m H' I' q hn ff => ⟨m, hn, fun h'' sb => ?_⟩
  obtain ⟨f0, f1, f2, f3, f4, f5⟩ := ff
  exact ⟨.ref D, H', I'.turned (t' := s'.toks) (fun b o hb e => (sb.2 b hb).trans e) f0 f1 f3 f4 f5, rfl, q⟩
theorem ps_setLcX {Zf : Value → Option Addr → Obj → Prop} (hZ : ∀ c d, PXN.Steady1 (Zf c d)) {L : Addr} {i : Nat} {y : Str} {py : Pos} {elt tg iter : Expr} {ifs : List Expr} {scope : Scope} {own : List (Str × Nat)} {pos spos : Pos} {wi : TI} {g : TG} {tt : TT} {te : WX → TE} (f : FrOk X L) (tk : TakesF Zf X L W) (hc : X.calm = true) (hN : X.N.Nodup)
    (hy : X.N[i]? = some y) (hyl : X.env.scope.names.lookup y = some .local) (hsw : swapsWith (.ListComp elt [⟨tg, iter, ifs, 0⟩] scope pos) (some (.Name y py)) spos.line X.env = pure true) (hi : PI X tg iter wi) (ok : BlkOk X.N X.env.scope scope own)
    (hg : ∀ (s : Shared) (H : Hp) (C : Addr) (cl : List (Str × Addr)) (fp : List Addr), PG (X.blk s H scope (compEnvC scope cl C X.env) fp) tg g)
    (ht : ∀ (s : Shared) (H : Hp) (C : Addr) (cl : List (Str × Addr)) (fp : List Addr), PTs (X.blk s H scope (compEnvC scope cl C X.env) fp) ifs tt)
    (he : ∀ (s : Shared) (H : Hp) (C : Addr) (cl : List (Str × Addr)) (fp : List Addr) (xe : Value → Shared → Prop) (W2 : WX), TakesF Zf (blkx X s H scope (compEnvC scope cl C X.env) fp xe) L W2 → PE (blkx X s H scope (compEnvC scope cl C X.env) fp xe) elt (te W2))
    (hs : ∀ x, foldedSetIterable iter X.env x = pure x := by intro _; rfl) :
    PS X (.Assign [.Name y py] (.ListComp elt [⟨tg, iter, ifs, 0⟩] scope pos) spos) (tAsg (fun σ H Q => tLc wi g tt (te fun c d _ H => W c d σ H) (own.map (·.2)) σ H Q) (gName i)) := by
  refine ⟨fun pins s σ H D I h => ?_⟩
  rw [exec_Assign_Name_used _ _ _ _ hsw]
  refine wpAny_bind (wpAny_standAt (wpAny_bind ?_))
  have h : tLc wi g tt (te fun c d _ H => W c d σ H) (own.map (·.2)) σ H (fun x H1 => gName i x σ H1 D.nx) := h
  refine wpAny_bind (thn (lcX_core (use := some (assign (.Name y py) X.env)) (Qf := fun _ s' => SP X pins D .next s') hZ f tk hc hN I hi ok hg ht he hs h fun L2' cl C s' m H' I' q hn ff => ?_) fun _ s' hq => wpAny_pure (wpAny_pure hq))
  show wpAny _ _ (assign (.Name y py) X.env (.ref L2')) _ _ _
  refine wpAny_assign_Name (store_ok2 (v := V.ref L2') I' hN hy (.inl hyl) rfl (fun s2 I2 ⟨a, sb, ha⟩ => ?_) (.inr hyl))
  obtain ⟨f0, f1, f2, f3, f4, f5⟩ := ff
  have haC : C ≠ a := ha.elim (fun z => by rw [z]; exact f1) fun z e => f4 y a z e.symm
  exact ⟨m, hn.sameBut sb haC, fun h3 sb3 => ⟨_, H', I2.turned (t' := s2.toks) (fun b o hb e => (sb3.2 b hb).trans e) f0 f1 f3 f4 f5, q⟩⟩
end
end DL

namespace DL
open PySem PySem.Spec PyProof.Rows L2
def compXD (p : Pat) (τ : Dt) (ε : De) : List D → List Sl → List D → Res (List D)
  | [], _, S => .ok [] S
  | x :: xs, Γ, S => match p.bind x Γ with
    | none => .stuck
    | some Γ1 => (nox (τ Γ1 S)).bind fun k S1 => if k then (ε Γ1 S1).bind fun d S2 => (compXD p τ ε xs Γ S2).bind fun ds S3 => .ok (d :: ds) S3 else compXD p τ ε xs Γ S1
/-- [e for p in xs if c], the element may raise -/
def eCompX (ι : Da) (p : Pat) (vs : List Nat) (τ : Dt) (ε : De) : De := fun Γ S => (ι Γ S).bind fun xs S1 => if xs.length ≤ sizeLine then (compXD p τ ε xs (wipeD Γ vs) S1).bind fun ds S2 => .ok (.lst ds) S2 else .stuck
section
variable {X : Cx} {cls : Nat → Addr} {W : WX}
theorem x_compX {ι : Da} {p : Pat} {τ : Dt} {ε : De} {vs : List Nat} (hv : ∀ i ∈ p.vars, i ∈ vs) {σ : L2.St} {H : Hp} {Q : VK} (h : tE ⟨X.K, cls⟩ W (RF ⟨X.K, cls⟩) (eCompX ι p vs τ ε) σ H Q) :
    tLc (tI ⟨X.K, cls⟩ W ι) (p.g X.K) (tT ⟨X.K, cls⟩ W0 τ) (tE ⟨X.K, cls⟩ (fun c d _ H => W c d σ H) (RS ⟨X.K, cls⟩) ε) vs σ H Q := by
  obtain ⟨Γ, S, ρ, G, m, q⟩ := h
  refine ⟨Γ, S, ρ, G, m, ?_⟩
  unfold eCompX at q
  cases z : ι Γ S with
  | exc x S1 => rw [z] at q; exact q
  | stuck => rw [z] at q; exact q
  | ok xs S1 =>
    rw [z] at q
    simp only [Res.bind_ok] at q
    intro J ρ1 G1 H1 m1 n1 sk D0 hD
    split at q
    rotate_left
    · exact q.elim
    rename_i hxs
    have hown : ∀ (i : Nat) (d : D) (b : Addr), Γ[i]? = some (Sl.own d) → σ[i]? = some (some (V.ref b)) → b ≠ D0 := fun i d b h1 h2 e => by
      obtain ⟨b', e', r', _⟩ := m1.own i d h1
      rw [h2] at e'; cases e'
      obtain ⟨o, ho⟩ := r'.some
      rw [e, hD] at ho; cases ho
    have gD : G1 D0 = none := m1.sub.gone hD
    have pD : D0 ∉ ρ1 := fun e => by
      obtain ⟨i, hi⟩ := List.mem_iff_getElem?.mp e
      have hi2 : i < S1.length := by rw [← m1.len]; exact (List.getElem?_eq_some_iff.mp hi).1
      obtain ⟨a, ha, r⟩ := m1.sto i S1[i] (List.getElem?_eq_getElem hi2)
      rw [hi] at ha; cases ha
      obtain ⟨o, ho⟩ := r.some
      rw [ho] at hD; cases hD
    let Pv : Nat → Hp → Prop := fun i H => ∃ S ρ G acc accd, Mem ⟨X.K, cls⟩ Γ S ρ G H σ ∧ H D0 = some (.lst acc) ∧ Reps ⟨X.K, cls⟩ ρ G accd acc ∧ acc.length ≤ i ∧ D0 ∉ ρ ∧ G D0 = none ∧ Nx ρ1 G1 H1 ρ G H ∧
      compXD p τ ε xs (wipeD Γ vs) S1 = (compXD p τ ε (xs.drop i) (wipeD Γ vs) S).bind fun ds S3 => .ok (accd ++ ds) S3
    refine ⟨fun i mm H => mm = xs.length - i ∧ i ≤ xs.length ∧ Pv i H, ⟨xs.length, by omega, Nat.zero_le _, S1, ρ1, G1, [], [], m1.aside gD (noTE_of hD) pD hown, upd_same, .nil, Nat.zero_le _, pD, gD, Nx.refl.aside hD, ?_⟩, fun i mm H ⟨hm, hi, S, ρ, G, acc, accd, ms, hacc, racc, lacc, pD', gD', nn, eqn⟩ => ?_⟩
    · rw [List.drop_zero]
      cases compXD p τ ε xs (wipeD Γ vs) S1 <;> rfl
    · have sub1 : Sub G1 G := nn.ext
      by_cases hlt : i < xs.length
      · rw [List.drop_eq_getElem_cons hlt, compXD] at eqn
        refine .inr ⟨sk.go S ρ G H i ms.toS sub1 nn.pre (old_of m1 nn) hlt, Pv (i + 1), fun H' n => ⟨xs.length - (i + 1), by omega, rfl, hlt, n⟩, fun x H' y => ?_⟩
        obtain ⟨G', m', n', r'⟩ := sk.yld S ρ G H i x H' _ ms.toS sub1 nn.pre (old_of m1 nn) (List.getElem?_eq_getElem hlt) y
        have mw := (ms.step n' m').wipe vs
        cases hbd : p.bind xs[i] (wipeD Γ vs) with
        | none => rw [hbd] at eqn; rw [eqn] at q; exact q.elim
        | some Γ1 =>
          rw [hbd] at eqn
          simp only at eqn
          refine Pat.ok (C := ⟨X.K, cls⟩) p xs[i] x (wipeD Γ vs) Γ1 (L2.wipe σ vs) mw r' hbd _ fun σ2 m2 _ kp => ⟨?_, Γ1, S, ρ, G', m2, ?_⟩
          · rw [wipe_eq kp.1 fun j hj => kp.2 j fun h => hj (hv j h), wipe_eq (L2.wipe_length σ vs) fun j hj => wipe_out2 hj]
          · cases zt : τ Γ1 S with
            | exc x2 S2 => rw [zt] at eqn; rw [eqn] at q; exact q.elim
            | stuck => rw [zt] at eqn; rw [eqn] at q; exact q.elim
            | ok k S2 =>
              rw [zt] at eqn
              simp only [nox_ok, Res.bind_ok] at eqn
              intro kv ρ2 G2 H2 mm2 nn2 rk
              have ek : k = kv := rk
              subst ek
              have nnH : Nx ρ G H ρ2 G2 H2 := n'.trans nn2
              have keepD : ∀ {ρ3 : List Addr} {G3 H3 : Hp}, Nx ρ G H ρ3 G3 H3 → H3 D0 = some (.lst acc) ∧ D0 ∉ ρ3 ∧ G3 D0 = none := fun {ρ3 G3 H3} n3 => by
                refine ⟨n3.keep _ _ (fun _ z => nomatch z) hacc pD', fun z => ?_, ?_⟩
                · rcases n3.fre _ z with z | z
                  · exact pD' z
                  · rw [hacc] at z; cases z
                · cases e : G3 D0 with
                  | none => rfl
                  | some o => rcases n3.new _ _ e with z | z
                              · rw [gD'] at z; cases z
                              · rw [hacc] at z; cases z
              cases k with
              | false =>
                simp only [Bool.false_eq_true, if_false] at eqn
                obtain ⟨d1, d2, d3⟩ := keepD nnH
                exact iteF ⟨S2, ρ2, G2, acc, accd, ms.step nnH mm2.toS, d1, Reps.mono nnH.ext nnH.pre _ _ racc, by omega, d2, d3, nn.trans nnH, eqn⟩
              | true =>
                simp only [if_true] at eqn
                refine iteT ⟨Γ1, S2, ρ2, G2, mm2, ?_⟩
                cases ze : ε Γ1 S2 with
                | exc x3 S3 =>
                  rw [ze] at eqn; rw [eqn] at q
                  intro c dx ρ3 G3 H3 mm3 nn3 er
                  have nn4 : Nx ρ G H ρ3 G3 H3 := nnH.trans nn3
                  exact q c dx ρ3 G3 H3 (ms.step nn4 mm3.toS) (n1.trans (nn.trans nn4)) er
                | stuck => rw [ze] at eqn; rw [eqn] at q; exact q.elim
                | ok d S3 =>
                  rw [ze] at eqn
                  simp only [Res.bind_ok] at eqn
                  intro dv ρ3 G3 H3 mm3 nn3 rd
                  have nn4 : Nx ρ G H ρ3 G3 H3 := nnH.trans nn3
                  obtain ⟨d1, d2, d3⟩ := keepD nn4
                  refine ⟨acc, d1, by omega, S3, ρ3, G3, acc ++ [dv], accd ++ [d], (ms.step nn4 mm3.toS).aside d3 (noTE_lst d1) d2 hown, upd_same, (Reps.mono nn4.ext nn4.pre _ _ racc).append (.cons rd .nil), by rw [List.length_append, List.length_singleton]; omega, d2, d3, (nn.trans nn4).aside hD, ?_⟩
                  rw [eqn]
                  cases compXD p τ ε (xs.drop (i + 1)) (wipeD Γ vs) S3 with
                  | ok ds S4 => simp only [Res.bind_ok, List.append_assoc, List.singleton_append]
                  | exc _ _ => rfl
                  | stuck => rfl
      · have e : i = xs.length := by omega
        subst e
        refine .inl ⟨sk.stop S ρ G H ms.toS sub1 nn.pre (old_of m1 nn), ?_⟩
        rw [List.drop_length, compXD] at eqn
        rw [eqn] at q
        simp only [Res.bind_ok, List.append_nil] at q
        exact q _ ρ G H ms (n1.trans nn) ⟨D0, rfl, pD', n1.live _ hD, gD', acc, hacc, racc⟩
theorem df_compX {Zf : Value → Option Addr → Obj → Prop} (hZ : ∀ c d, PXN.Steady1 (Zf c d)) {L : Addr} {elt tg iter : Expr} {ifs : List Expr} {scope : Scope} {own : List (Str × Nat)} {pos : Pos} {ι : Da} {p : Pat} {τ : Dt} {ε : De} (f : FrOk X L) (tk : TakesF Zf X L W) (hc : X.calm = true) (hN : X.N.Nodup) (hi : DI X cls W tg iter ι) (ok : BlkOk X.N X.env.scope scope own) (hv : ∀ i ∈ p.vars, i ∈ own.map (·.2))
    (hg : ∀ (s : Shared) (H : Hp) (C : Addr) (cl : List (Str × Addr)) (fp : List Addr), PG (X.blk s H scope (compEnvC scope cl C X.env) fp) tg (p.g X.K))
    (ht : ∀ (s : Shared) (H : Hp) (C : Addr) (cl : List (Str × Addr)) (fp : List Addr), DTs (X.blk s H scope (compEnvC scope cl C X.env) fp) cls ifs τ)
    (he : ∀ (s : Shared) (H : Hp) (C : Addr) (cl : List (Str × Addr)) (fp : List Addr) (xe : Value → Shared → Prop) (W2 : WX), TakesF Zf (blkx X s H scope (compEnvC scope cl C X.env) fp xe) L W2 → DE (blkx X s H scope (compEnvC scope cl C X.env) fp xe) cls W2 elt ε)
    (hs : ∀ x, foldedSetIterable iter X.env x = pure x := by intro _; rfl) :
    DF X cls W (.ListComp elt [⟨tg, iter, ifs, 0⟩] scope pos) (eCompX ι p (own.map (·.2)) τ ε) := PE.weak (pe_lcX (tt := tT ⟨X.K, cls⟩ W0 τ) (te := fun W2 => tE ⟨X.K, cls⟩ W2 (RS ⟨X.K, cls⟩) ε) hZ f tk hc hN hi ok hg ht he hs) fun σ H Q h => x_compX hv h
theorem ps_compX {Zf : Value → Option Addr → Obj → Prop} (hZ : ∀ c d, PXN.Steady1 (Zf c d)) {L : Addr} {i : Nat} {y : Str} {py : Pos} {elt tg iter : Expr} {ifs : List Expr} {scope : Scope} {own : List (Str × Nat)} {pos spos : Pos} {ι : Da} {p : Pat} {τ : Dt} {ε : De} (f : FrOk X L) (tk : TakesF Zf X L W) (hc : X.calm = true) (hN : X.N.Nodup) (hy : X.N[i]? = some y) (hyl : X.env.scope.names.lookup y = some .local)
    (hsw : swapsWith (.ListComp elt [⟨tg, iter, ifs, 0⟩] scope pos) (some (.Name y py)) spos.line X.env = pure true) (hi : DI X cls W tg iter ι) (ok : BlkOk X.N X.env.scope scope own) (hv : ∀ i ∈ p.vars, i ∈ own.map (·.2))
    (hg : ∀ (s : Shared) (H : Hp) (C : Addr) (cl : List (Str × Addr)) (fp : List Addr), PG (X.blk s H scope (compEnvC scope cl C X.env) fp) tg (p.g X.K))
    (ht : ∀ (s : Shared) (H : Hp) (C : Addr) (cl : List (Str × Addr)) (fp : List Addr), DTs (X.blk s H scope (compEnvC scope cl C X.env) fp) cls ifs τ)
    (he : ∀ (s : Shared) (H : Hp) (C : Addr) (cl : List (Str × Addr)) (fp : List Addr) (xe : Value → Shared → Prop) (W2 : WX), TakesF Zf (blkx X s H scope (compEnvC scope cl C X.env) fp xe) L W2 → DE (blkx X s H scope (compEnvC scope cl C X.env) fp xe) cls W2 elt ε)
    (hs : ∀ x, foldedSetIterable iter X.env x = pure x := by intro _; rfl) :
    PS X (.Assign [.Name y py] (.ListComp elt [⟨tg, iter, ifs, 0⟩] scope pos) spos) (tAsg (tE ⟨X.K, cls⟩ W (RF ⟨X.K, cls⟩) (eCompX ι p (own.map (·.2)) τ ε)) (gName i)) := PS.weak (ps_setLcX (tt := tT ⟨X.K, cls⟩ W0 τ) (te := fun W2 => tE ⟨X.K, cls⟩ W2 (RS ⟨X.K, cls⟩) ε) hZ f tk hc hN hy hyl hsw hi ok hg ht he hs) fun Dn σ H h => x_compX (Q := fun x H1 => gName i x σ H1 Dn.nx) hv h
/-! calls in such a block -/
variable {k : Nat} {f : Addr} {fd : FuncData} {ps : List Str} {x : Str} {p pos : Pos} {e : Expr} {es : List Expr} {α : Da} {F : List D → List D → Res D}
theorem exB {δ : Da} {σ : L2.St} {H : Hp} {Q : VK} (hal : ALen δ ps.length) (h : tE ⟨X.K, cls⟩ W (RS ⟨X.K, cls⟩) (eCall F δ) σ H Q) :
    tA ⟨X.K, cls⟩ W δ σ H fun vs H1 => spD ⟨X.K, cls⟩ ps.length F vs H1 Q (fun c d H2 => W c d σ H2) := by
  obtain ⟨Γ, S, ρ, G, m, p⟩ := h
  refine ⟨Γ, S, ρ, G, m, ?_⟩
  unfold eCall at p
  cases q : δ Γ S with
  | exc x S1 => rw [q] at p; exact p
  | stuck => rw [q] at p; exact p
  | ok ds S1 =>
    rw [q] at p
    intro vs ρ1 G1 H1 m1 n1 r1
    refine ⟨S1, ρ1, G1, ds, m1.toS, r1, by rw [← r1.length]; exact hal.le _ _ _ _ q, ?_⟩
    replace p : Post ⟨X.K, cls⟩ W (RS ⟨X.K, cls⟩) Γ ρ G H σ (F ds S1) Q := p
    cases z : F ds S1 with
    | ok d S2 => rw [z] at p; exact fun v ρ2 G2 H2 m2 n2 r2 => p v ρ2 G2 H2 (m1.step n2 m2) (n1.trans n2) r2
    | exc x S2 => rw [z] at p; exact fun c dx ρ2 G2 H2 m2 n2 r2 => p c dx ρ2 G2 H2 (m1.step n2 m2) (n1.trans n2) r2
    | stuck => rw [z] at p; exact p
theorem de_callB (Fn : FnG X.prog X.w X.K X.mg X.base k f fd ps (spD ⟨X.K, cls⟩ ps.length F)) (pa : PassA X W) (rm : RoomG k X.A) (hg : Gl X x) (hm : X.mg x = some (.ref f)) (hk : PySem.W.keepIn X.K (.ref f) = true) (bd : Binds X.K fd ps [])
    (ha : DA X cls W (e :: es) α) (hal : ALen α ps.length) (hdb : (x == ("__debug__" : Str)) = false := by decide) (he : starEach (e :: es) X.env = (false, eval e X.env) :: starEach es X.env := by rfl) (pl : (backTo pos (starEach es X.env)).any (·.1) = false := by rfl) :
    DE X cls W (.Call (.Name x p) (e :: es) [] pos) (eCall F α) := ⟨fun pins s σ H Q I h => by
  refine wpAny_Call_Name_kw (ld_glob I hg hm ?_ hdb)
  exact PySem.W.callWith_K (h₀ := X.base) I.ok.mod.kin hk (thn (ha.run pos pins s σ H _ I (exB hal h)) fun us s1 ⟨vs, H1, I1, rv, q⟩ => ⟨I1.kIn, goesG Fn rm bd (pa σ) I1 rv q⟩) he pl⟩
end
end DL


namespace DL
open PySem PySem.Spec PyProof.Rows L2
section
variable {X : Cx} {cls : Nat → Addr} {W : WX} {a b : Expr} {δa δb : De} {pos apos : Pos} {x : Str} {np : Pos}
/-! ### methods of texts: s.startswith(t), s.split(t); t.index(x), t a written tuple of texts -/
def eM1 (f : D → D → Option D) (a b : De) : De := fun Γ S => (a Γ S).bind fun x S1 => if isStr x = true then (b Γ S1).bind fun y S2 => ofO (f x y) S2 else .stuck
def dSt2 : D → D → Option D
  | .str x, .str y => some (.bl (Txt.startswith x y))
  | _, _ => none
def dSplit : D → D → Option D
  | .str x, .str y => if (y.length == 0) = false ∧ x.length + 2 ≤ sizeLine then some (.lst ((Txt.split x y).map D.str)) else none
  | _, _ => none
theorem x_m1 {f : D → D → Option D} {RV : RVT D V} (bk : Back RV) {r : V → List V → Hp → VK → Prop} {σ : L2.St} {H : Hp} {Q : VK}
    (hr : ∀ (S : List D) (ρ : List Addr) (G H : Hp) (z : Str) (dy d : D) (y : V) (Q : VK), MemS ⟨X.K, cls⟩ S ρ G H → Rep ⟨X.K, cls⟩ ρ G dy y → f (.str z) dy = some d → (∀ v ρ' G' H', MemS ⟨X.K, cls⟩ S ρ' G' H' → Nx ρ G H ρ' G' H' → RV H ρ' G' H' d v → Q v H') → r (.str z) [y] H Q)
    (h : tE ⟨X.K, cls⟩ W RV (eM1 f δa δb) σ H Q) : tM1 r (tE ⟨X.K, cls⟩ W (RS ⟨X.K, cls⟩) δa) (tE ⟨X.K, cls⟩ W (RS ⟨X.K, cls⟩) δb) σ H Q := by
  obtain ⟨Γ, S, ρ, G, m, p⟩ := h
  refine ⟨Γ, S, ρ, G, m, (Post.seq bk p).mono fun x H1 ⟨dx, S1, ρ1, G1, m1, n1, r1, p1⟩ => ?_⟩
  split at p1
  · rename_i hd
    obtain ⟨z, rfl, rfl⟩ := isStr_rep hd r1
    refine ⟨⟨z, rfl⟩, Γ, S1, ρ1, G1, m1, (Post.seq bk p1).mono fun y H2 ⟨dy, S2, ρ2, G2, m2, n2, r2, p2⟩ => ?_⟩
    obtain ⟨d, hd3, p4⟩ := ofO_post p2
    exact hr S2 ρ2 G2 H2 z dy d y _ m2.toS r2 hd3 fun v ρ' G' H' m' n' r' => p4.here (m2.step n' m') n' r'
  · exact p1.elim
theorem de_st2 (ha : DE X cls W a δa) (hb : DE X cls W b δb) (hs : starEach [b] X.env = [(false, eval b X.env)] := by rfl) (hbase : attributeBase a "startswith" X.env (eval a X.env) = eval a X.env := by rfl) (hline : (apos.endLine == pos.line) = true := by rfl) :
    DE X cls W (.Call (.Attribute a "startswith" apos) [b] [] pos) (eM1 dSt2 δa δb) :=
  PE.weak (pe_m1 F.slot_str_startswith F.type_str_startswith mt_startswith ha hb hs hbase hline) fun σ H Q h => x_m1 back_RS (fun S ρ G H z dy d y Q m ry e q => by
    cases dy <;> try cases e
    rw [rep_str.mp ry]
    exact ⟨z, _, rfl, rfl, q _ _ _ _ m .refl (rep_bl.mpr rfl)⟩) h
theorem df_split (ha : DE X cls W a δa) (hb : DE X cls W b δb) (hs : starEach [b] X.env = [(false, eval b X.env)] := by rfl) (hbase : attributeBase a "split" X.env (eval a X.env) = eval a X.env := by rfl) (hline : (apos.endLine == pos.line) = true := by rfl) :
    DF X cls W (.Call (.Attribute a "split" apos) [b] [] pos) (eM1 dSplit δa δb) :=
  PE.weak (pe_split ha hb hs hbase hline) fun σ H Q h => x_m1 back_RF (fun S ρ G H z dy d y Q m ry e q => by
    cases dy <;> try cases e
    rename_i u
    rw [rep_str.mp ry]
    unfold dSplit at e
    simp only at e
    split at e
    · rename_i hz
      cases e
      refine ⟨z, u, rfl, rfl, hz.1, hz.2, fun p hp => ?_⟩
      obtain ⟨m2, n2, r2⟩ := x_new m (ds := (Txt.split z u).map D.str) (vs := (Txt.split z u).map V.str) reps_strs hp
      exact q _ _ _ _ m2 n2 r2
    · cases e) h
/-- the first place of a text -/
def fstIx (z : Str) : List Str → Option Nat
  | [] => none
  | y :: ys => if y = z then some 0 else (fstIx z ys).map (· + 1)
theorem fstIx_ok (z : Str) : ∀ (ys : List Str) (j : Nat), fstIx z ys = some j → ys[j]? = some z ∧ ∀ m, m < j → ys[m]? ≠ some z
  | [], _, h => by cases h
  | y :: ys, j, h => by
    unfold fstIx at h
    split at h
    · rename_i e; cases h; subst e; exact ⟨rfl, fun m hm => absurd hm (Nat.not_lt_zero _)⟩
    · rename_i e
      cases q : fstIx z ys with
      | none => rw [q] at h; cases h
      | some k =>
        rw [q] at h; cases h
        obtain ⟨h1, h2⟩ := fstIx_ok z ys k q
        refine ⟨by simpa using h1, fun m hm => ?_⟩
        cases m with
        | zero => intro z'; simp at z'; exact e z'
        | succ m => simpa using h2 m (by have hm : m + 1 < k + 1 := hm; omega)
def eIxK (zs : List Str) (b : De) : De := fun Γ S => (b Γ S).bind fun y S1 => match y with
  | .str z => ofO ((fstIx z zs).map fun j => D.int (j : Nat)) S1
  | _ => .stuck
theorem de_ixK {zs : List Str} (hm : ∃ a us n sl, X.mg x = some (.ref a) ∧ X.K.lookup a = some ⟨.type "tuple", none, .seq us.toArray n, sl⟩ ∧ StrsV zs us ∧ us.length ≤ sizeLine) (hb : DE X cls W b δb) (hg : Gl X x := by rfl) (hd : (x == ("__debug__" : Str)) = false := by decide)
    (hbase : attributeBase (.Name x np) "index" X.env (eval (.Name x np) X.env) = eval (.Name x np) X.env := by rfl)
    (hfew : ((backTo pos (starEach [b] X.env)).all (fun x => !x.1) && (backToKw pos (keywordEach [] X.env)).all (fun x => x.1.isSome) && decide ([b].length + ([] : List Keyword).length + (if ([] : List Keyword).isEmpty then 0 else 1) < 30)) = true := by rfl)
    (hline : (apos.endLine == pos.line) = true := by rfl) (hs : starEach [b] X.env = (false, eval b X.env) :: starEach [] X.env := by rfl) (hplain : (backTo pos (starEach [] X.env)).any (·.1) = false := by rfl) :
    DE X cls W (.Call (.Attribute (.Name x np) "index" apos) [b] [] pos) (eIxK zs δb) := by
  obtain ⟨a, us, n, sl, hm, hk, hu, hl⟩ := hm
  refine PE.weak (pe_bm F.plainAttrs_tuple F.slot_tuple_index F.type_tuple_index mt_tup_index (pe_glob (v := .ref a) hg hm rfl hd) (pa_cons hb pa_nil hs) hbase hfew hline hs hplain) fun σ H Q ⟨Γ, S, ρ, G, m, p⟩ => ?_
  refine ⟨.inr (.inl ⟨rfl, _, hk, rfl, rfl⟩), Γ, S, ρ, G, m, (Post.seq back_RS p).mono fun y H1 ⟨dy, S1, ρ1, G1, m1, n1, r1, p1⟩ => ?_⟩
  cases dy with
  | str z =>
    obtain ⟨d, hd3, p4⟩ := ofO_post p1
    cases q : fstIx z zs with
    | none => rw [q] at hd3; cases hd3
    | some j =>
      rw [q] at hd3; cases hd3
      obtain ⟨h1, h2⟩ := fstIx_ok z zs j q
      rw [rep_str.mp r1]
      exact ⟨a, zs, z, j, rfl, rfl, .inr ⟨_, us.toArray, n, hk, rfl, rfl, by simpa using hl, hu.vals⟩, h1, h2, p4.at m1 (rep_int.mpr rfl)⟩
  | _ => exact p1.elim
end
end DL

namespace DL
open PySem PySem.Spec PyProof.Rows L2
/-! ### defs whose exceptions have no context -/
structure FnN (P : Program) (w : World) (K : PySem.W.Frag) (mg : Str → Option Value) (base : Heap) (k : Nat) (f : Addr) (fd : FuncData) (ps : List Str) (sp : Sp) : Prop where
  lng : ∀ vs H Q E, sp vs H Q E → vs.length = ps.length
  goes : ∀ (A : Around) (o : List Env) (s : Shared) (H : Hp) (ar : Args) (us : List Value) (vs : List V) (Q : VK) (E : XK), RoomG k A → Env0 P w K mg base A o s H → BindsTo s fd ar (ps.zip us) → Vals vs us → sp vs H Q E →
    codeAny (model P w) A (.call (.ref f) ar) (CR (L2N.CX P w) o P w H s Q E) s
section
variable {P : Program} {w : World} {K : PySem.W.Frag} {mg : Str → Option Value} {base : Heap} {cls : Nat → Addr}
theorem fnN_stuck {k : Nat} {f : Addr} {fd : FuncData} {ps : List Str} {C : Cn} {F : List D → List D → Res D} (h : ∀ ds S, F ds S = .stuck) : FnN P w K mg base k f fd ps (spD C ps.length F) := by
  have no : ∀ vs H Q E, ¬ spD C ps.length F vs H Q E := fun vs H Q E h' => by
    obtain ⟨S, ρ, G, ds, _, _, _, z⟩ := h'
    rw [h] at z; exact z
  exact ⟨fun vs H Q E h => absurd h (no vs H Q E), fun A o s H ar us vs Q E _ _ _ _ h => absurd h (no vs H Q E)⟩
theorem body_runs {C : Cn} {N : List Str} {δ : Ds} {vs : List V} {H : Hp} {Q : VK} {E : XK} {n : Nat} (h : spD C n (bodyRun N.length δ) vs H Q E) : tS C (fun c d _ H => E c d H) δ { nx := fun _ H' => Q .non H', rt := Q } (L2.start N vs) H := by
  obtain ⟨S, ρ, G, ds, m, r, hl, h⟩ := h
  refine ⟨⟨ρ, G, H, G, ρ, H⟩, _, S, ρ, G, ⟨start_mem m r, .refl, fun i d a h1 h2 => ?_, .refl, List.prefix_refl _, .refl⟩, ?_⟩
  · exfalso
    rcases List.mem_append.mp (List.mem_of_getElem? h1) with z | z
    · obtain ⟨_, _, e⟩ := List.mem_map.mp z; cases e
    · cases (List.eq_of_mem_replicate z)
  · unfold bodyRun at h
    cases q : δ (ds.map Sl.val ++ List.replicate (N.length - ds.length) Sl.non) S with
    | next Γ S' => rw [q] at h; exact fun ρ' G' H' σ' s' => h .non ρ' G' H' s'.mem.toS s'.nx (rep_non.mpr rfl)
    | ret d S' => rw [q] at h; exact fun v ρ' G' H' m' n' _ r' => h v ρ' G' H' m' n' r'
    | exc e Γ S' => rw [q] at h; exact fun c dx ρ' G' H' σ' s' er => h c dx ρ' G' H' s'.mem.toS s'.nx er
    | brk _ _ => rw [q] at h; exact h.elim
    | cont _ _ => rw [q] at h; exact h.elim
    | stuck => rw [q] at h; exact h.elim
theorem defN_ok {x qual : Str} {st : Stmt} {f : Addr} {fd : FuncData} {N ps : List Str} {k : Nat} {δ : Ds} (F : Fun K x qual st f fd) (Sc : FnScope N ps (defScope st))
    (hbody : ∀ (cdv : Value) (A : Around) (outer : List Env) (s : Shared) (H : Hp) (E : XK), RoomG k (A.deeper (envOfC qual (defScope st) s.heap.objs.size f cdv)) →
      DSs (cxOf (L2N.CX P w) P w K mg base N qual (defScope st) f cdv A outer s H E) cls (fun c d _ H => E c d H) (defBody st) δ) : FnN P w K mg base (k + 1) f fd ps (spD ⟨K, cls⟩ ps.length (bodyRun N.length δ)) := by
  obtain ⟨oc, od, kV, doc, pm, an, cdv, ct, osl, rfl, lk, hcd⟩ := F.ex
  have ln : ∀ vs H Q E, spD ⟨K, cls⟩ ps.length (bodyRun N.length δ) vs H Q E → vs.length = ps.length := fun vs H Q E h => by obtain ⟨_, _, _, _, _, _, h, _⟩ := h; exact h
  exact ⟨ln, fun A o s0 H ar us vs Q E rm e0 bd rv h => LamX.run_ofS lk hcd Sc rm.toRoom e0 bd rv (ln _ _ _ _ h) fun _ => ⟨_, hbody cdv A o s0 H E (rm.deep _), body_runs h⟩⟩
theorem defCN_ok {x qual : Str} {st : Stmt} {f : Addr} {fd : FuncData} {N ps : List Str} {k : Nat} {δ : Ds} {c : Addr} (F : Fun K x qual st f fd) (ec : fd.code = .ref c) (Sc : FnScope N ps (defScope st))
    (hbody : ∀ (A : Around) (outer : List Env) (s : Shared) (H : Hp) (E : XK), RoomG k (A.deeper (envOfC qual (defScope st) s.heap.objs.size f (.ref c))) →
      DSs (cxOf (L2N.CX P w) P w K mg base N qual (defScope st) f (.ref c) A outer s H E) cls (fun c d _ H => E c d H) (defBody st) δ) : FnN P w K mg base (k + 1) f fd ps (spD ⟨K, cls⟩ ps.length (bodyRun N.length δ)) := by
  obtain ⟨oc, od, kV, doc, pm, an, cdv, ct, osl, rfl, lk, hcd⟩ := F.ex
  have ec : cdv = .ref c := ec
  subst ec
  have ln : ∀ vs H Q E, spD ⟨K, cls⟩ ps.length (bodyRun N.length δ) vs H Q E → vs.length = ps.length := fun vs H Q E h => by obtain ⟨_, _, _, _, _, _, h, _⟩ := h; exact h
  exact ⟨ln, fun A o s0 H ar us vs Q E rm e0 bd rv h => LamX.run_ofS lk hcd Sc rm.toRoom e0 bd rv (ln _ _ _ _ h) fun _ => ⟨_, hbody A o s0 H E (rm.deep _), body_runs h⟩⟩
end
section
variable {X : Cx} {cls : Nat → Addr} {W : WX} {k : Nat} {f : Addr} {fd : FuncData} {ps : List Str} {x : Str} {p pos : Pos} {e : Expr} {es : List Expr} {α : Da} {F : List D → List D → Res D} {sp : Sp}
theorem goesN {pins : List (Addr × Obj)} {σ : L2.St} {H : Hp} {s : Shared} {Q : VK} {E : XK} {us : List Value} {vs : List V} (Fn : FnN X.prog X.w X.K X.mg X.base k f fd ps sp) (rm : RoomG k X.A) (bd : Binds X.K fd ps []) (pa : PassesAt (L2N.CX X.prog X.w) X σ E)
    (I : Inv X pins σ H s) (rv : Vals vs us) (h : sp vs H Q E) : wpAny (model X.prog X.w) X.A (call (.ref f) us) (EP X pins σ Q) X.xe s := by
  have b2 : BindsTo s fd ⟨us, []⟩ (ps.zip us) := by
    have z := bd s us I.kIn (by rw [List.append_nil, ← rv.length]; exact Fn.lng _ _ _ _ h)
    rwa [List.append_nil] at z
  refine wpAny_call (codeAny_mono (Fn.goes X.A X.stack s H ⟨us, []⟩ us vs Q E rm I.env0 b2 rv h) ?_)
  rintro (er | ⟨u⟩ | _ | _ | _) s2 hq
  all_goals first | exact pa pins H s er s2 I hq | exact I.after hq | exact hq.elim
/-- an exception without a context is an exception -/
theorem passN_ofA {X : Cx} {W : WX} (tk : Takes X W) : PassN X W := fun σ pins H s e s' I ⟨a, B, H', cls, d, h1, h2, h3⟩ => passAt tk σ pins H s e s' I ⟨a, B, H', cls, d, h1, L2H.flyingZ_imp (fun _ z => z.zc) h2, h3⟩
theorem de_callN (Fn : FnN X.prog X.w X.K X.mg X.base k f fd ps (spD ⟨X.K, cls⟩ ps.length F)) (pa : PassN X W) (rm : RoomG k X.A) (hg : Gl X x) (hm : X.mg x = some (.ref f)) (hk : PySem.W.keepIn X.K (.ref f) = true) (bd : Binds X.K fd ps [])
    (ha : DA X cls W (e :: es) α) (hal : ALen α ps.length) (hdb : (x == ("__debug__" : Str)) = false := by decide) (he : starEach (e :: es) X.env = (false, eval e X.env) :: starEach es X.env := by rfl) (pl : (backTo pos (starEach es X.env)).any (·.1) = false := by rfl) :
    DE X cls W (.Call (.Name x p) (e :: es) [] pos) (eCall F α) := ⟨fun pins s σ H Q I h => by
  refine wpAny_Call_Name_kw (ld_glob I hg hm ?_ hdb)
  exact PySem.W.callWith_K (h₀ := X.base) I.ok.mod.kin hk (thn (ha.run pos pins s σ H _ I (exB hal h)) fun us s1 ⟨vs, H1, I1, rv, q⟩ => ⟨I1.kIn, goesN Fn rm bd (pa σ) I1 rv q⟩) he pl⟩
/-! raise -/
theorem x_raise {C : Cn} {c : Nat} {fld : Str} {δ : De} {Dn : Ends} {σ : L2.St} {H : Hp} (h : tS C W (sRaise c fld δ) Dn σ H) : tMkErr C.K (C.cls (c + 3)) fld (tCons (tE C W (RS C) δ) tNil) σ H fun cls d H' => W cls d σ H' := by
  obtain ⟨en, Γ, S, ρ, G, s, p⟩ := h
  refine ⟨Γ, S, ρ, G, s.mem, post_after s p fun d S1 ρ1 G1 H1 v m n s1 r p1 => ?_⟩
  split at p1
  · rename_i hsh
    refine ⟨v, rfl, shOk_shows m.sub hsh r, fun d1 hd1 => ?_⟩
    obtain ⟨m', n', np, gp⟩ := m.new (o := .xd [(fld, v)]) hd1
    obtain ⟨m2, n2, k2⟩ := Mem.settle m n' m' hd1 gp np upd_same ⟨fun _ z => (nomatch z), fun _ z => (nomatch z)⟩
    exact p1 _ _ ρ1 _ _ σ (s1.step m2 n2) ⟨rfl, (fun z => by cases z), fun _ => ⟨d1, [v], rfl, upd_same, rfl, .cons (r.mono k2 (List.prefix_refl _)) .nil⟩⟩
  · exact p1.elim
variable {c : Nat} {D0 fI cc cda : Addr} {par fld qual : Str} {st : Stmt} {a : Expr} {δ : De} {pos2 : Pos}
theorem ds_raiseN (hc : X.calm = true) (T : ErrTxt X.prog X.K qual st (cls (c + 3)) D0 fI cc cda par fld) (hm : X.mg x = some (.ref (cls (c + 3)))) (hsup : X.mg "super" = none) (hr : RoomG k X.A) (tk : L2N.Takes X W) (hg : Gl X x) (ha : DE X cls W a δ)
    (hdb : (x == ("__debug__" : Str)) = false := by decide) (he : starEach (a :: []) X.env = (false, eval a X.env) :: starEach [] X.env := by rfl) (hpl : (backTo pos (starEach [] X.env)).any (·.1) = false := by rfl) :
    DS X cls W (.Raise (some (.Call (.Name x p) [a] [] pos)) none pos2) (sRaise c fld δ) :=
  PS.weak (L2N.ps_raise hc tk (pmk_errN T hm hsup (by have := hr.toRoom.dp; omega) (by have := hr.toRoom.un; omega) hr.gd (pa_cons ha pa_nil he) hg hdb he hpl)) fun Dn σ H h => x_raise (C := ⟨X.K, cls⟩) h
theorem ds_raiseH (hc : L2H.HotC X) (T : ErrTxt X.prog X.K qual st (cls (c + 3)) D0 fI cc cda par fld) (hm : X.mg x = some (.ref (cls (c + 3)))) (hsup : X.mg "super" = none) (hr : RoomX k X.A) (tk : Takes X W) (hg : Gl X x) (ha : DE X cls W a δ)
    (hdb : (x == ("__debug__" : Str)) = false := by decide) (he : starEach (a :: []) X.env = (false, eval a X.env) :: starEach [] X.env := by rfl) (hpl : (backTo pos (starEach [] X.env)).any (·.1) = false := by rfl) :
    DS X cls W (.Raise (some (.Call (.Name x p) [a] [] pos)) none pos2) (sRaise c fld δ) :=
  PS.weak (L2H.ps_raiseH hc tk (pmk_errN T hm hsup (by have := hr.dp; omega) (by have := hr.un; omega) hr.gd (pa_cons ha pa_nil he) hg hdb he hpl)) fun Dn σ H h => x_raise (C := ⟨X.K, cls⟩) h
end
/-! ### try: .. except X: a suite that raises out of the try -/
def unxR : Out → Out
  | .exc e Γ S => if noX Γ then .exc e Γ S else .stuck
  | o => unx none o
def sTryR (f : Nat → Option Bool) (b h : Ds) : Ds := fun Γ S => match b Γ S with
  | .exc e Γ1 S1 => match f e.c with
    | some true => if noX Γ1 then unxR (h Γ1 S1) else .stuck
    | some false => .exc e Γ1 S1
    | none => .stuck
  | o => o
def tsW (X : Cx) (cls : Nat → Addr) (W : WX) (δh : Ds) (a : Addr) (clsv : Value) (d : Option Addr) : TS := fun D σ H => clsv = .ref (xcls cls a d clsv 2) ∧ tS ⟨X.K, xcls cls a d clsv⟩ W δh D σ H
theorem exRep_re {C C' : Cn} {ρ : List Addr} {G H : Hp} {e : Exn} {cv : Value} {dx : Option Addr} (hK : C'.K = C.K) (hc : ∀ n, C'.cls (n + 3) = C.cls (n + 3)) (h : ExRep C ρ G H e cv dx) : ExRep C' ρ G H e cv dx := by
  obtain ⟨h1, h2, h3⟩ := h
  refine ⟨by rw [hc]; exact h1, h2, fun z => ?_⟩
  obtain ⟨d, vs, a1, a2, a3, a4⟩ := h3 z
  exact ⟨d, vs, a1, a2, a3, Reps.re hK hc _ _ a4⟩
theorem tryR_core {C C' : Cn} {W : WX} {en : Ent} {Dn : Ends} {o : Out} (hK : C'.K = C.K) (hc : ∀ n, C'.cls (n + 3) = C.cls (n + 3)) (p : PostS C W en Dn (unxR o)) : PostS C' W en Dn o := by
  cases o with
  | exc e Γ S =>
    replace p : PostS C W en Dn (if noX Γ = true then .exc e Γ S else .stuck) := p
    by_cases hx : noX Γ = true
    · rw [if_pos hx] at p
      exact fun cv dx ρ G H σ s er => p cv dx ρ G H σ (s.re hK.symm (fun n => (hc n).symm) hx) (exRep_re hK.symm (fun n => (hc n).symm) er)
    · rw [if_neg hx] at p; exact p.elim
  | stuck => exact p.elim
  | ret d S =>
    have q := try_core (C := C) (C' := C') (W := W) (en := en) (Dn := Dn) (oi := none) (o := .ret d S) (un := fun σ => σ) hK hc (fun _ _ _ _ _ _ s => s) p
    exact q
  | next Γ S =>
    have q := try_core (C := C) (C' := C') (W := W) (en := en) (Dn := Dn) (oi := none) (o := .next Γ S) (un := fun σ => σ) hK hc (fun _ _ _ _ _ _ s => s) p
    exact q
  | brk Γ S =>
    have q := try_core (C := C) (C' := C') (W := W) (en := en) (Dn := Dn) (oi := none) (o := .brk Γ S) (un := fun σ => σ) hK hc (fun _ _ _ _ _ _ s => s) p
    exact q
  | cont Γ S =>
    have q := try_core (C := C) (C' := C') (W := W) (en := en) (Dn := Dn) (oi := none) (o := .cont Γ S) (un := fun σ => σ) hK hc (fun _ _ _ _ _ _ s => s) p
    exact q
section
variable {X : Cx} {cls : Nat → Addr} {W : WX} {x : Str} {CX : Addr} {body suite : List Stmt} {b₀ : Stmt} {np pos pos' : Pos} {δb δh : Ds} {f : Nat → Option Bool}
theorem ds_tryR (hs : X.stack = X.env :: X.outer) (hfr : X.env.frame = some X.env.locals) (hc : Names X x (.ref CX)) (hpa : ∀ hd : Option Value, PassesOwnAt (model X.prog X.w) (X.A.mark hd) X.A X.env X.xe) (tk : L2.Takes X W)
    (hf : ∀ c b, f c = some b → PySem.W.exmOne X.K (.ref (cls (c + 3))) (.ref CX) = some b)
    (hb : ∀ (W2 : WX) (pn : List (Addr × Obj)) (xe : Value → Shared → Prop), L2N.Takes (X.tr pn xe) W2 → PassesOwn (model X.prog X.w) X.A X.env xe → DSs (X.tr pn xe) cls W2 body δb)
    (hsu : ∀ (a : Addr) (oe : Obj) (pn : List (Addr × Obj)) (cv : Value) (d : Option Addr), Su cls (xcls cls a d cv) a oe → L2.Takes (L2H.suiteX X a ((a, oe) :: pn)) W → L2H.HotC (L2H.suiteX X a ((a, oe) :: pn)) → DSs (L2H.suiteX X a ((a, oe) :: pn)) (xcls cls a d cv) W (b₀ :: suite) δh) :
    DS X cls W (.Try body [.ExceptHandler (some (.Name x np)) none (b₀ :: suite) pos'] [] [] pos) (sTryR f δb δh) :=
  PS.weak (L2H.ps_try_onlyX (tb := fun W2 => tS ⟨X.K, cls⟩ W2 δb) (ts := tsW X cls W δh) hs hfr hc hpa tk (fun W2 pn xe t1 t2 hp => hb W2 pn xe t1 hp)
    (fun a oe cv d pn hz hff tkS hot => PSs.given fun e => hsu a oe pn cv d (su_of hz.zc hff e) tkS hot)) fun Dn σ H ⟨en, Γ, S, ρ, G, s, p⟩ => ⟨en, Γ, S, ρ, G, s, by
    unfold sTryR at p
    cases q : δb Γ S with
    | next Γ1 S1 => rw [q] at p; exact p
    | brk Γ1 S1 => rw [q] at p; exact p
    | cont Γ1 S1 => rw [q] at p; exact p
    | ret d S1 => rw [q] at p; exact p
    | stuck => rw [q] at p; exact p
    | exc e Γ1 S1 =>
      rw [q] at p
      intro cv dx ρ1 G1 H1 σ1 s1 er
      have ec : cv = .ref (cls (e.c + 3)) := er.1
      simp only at p
      cases hfe : f e.c with
      | none => rw [hfe] at p; exact p.elim
      | some b =>
        rw [hfe] at p
        refine ⟨b, by rw [ec]; exact hf _ _ hfe, fun hbt a na => ?_, fun hbf => ?_⟩
        · subst hbt
          simp only at p
          split at p
          · rename_i hx
            obtain ⟨z1, z2⟩ := xok_of (X := X) (a := a) er
            have s2 := SI.re (C := ⟨X.K, cls⟩) (C' := ⟨X.K, xcls cls a dx cv⟩) rfl (fun n => rfl) hx s1
            exact ⟨z1, en, _, S1, ρ1, G1, s2, tryR_core (C := ⟨X.K, cls⟩) (C' := ⟨X.K, xcls cls a dx cv⟩) rfl (fun n => rfl) p⟩
          · exact p.elim
        · subst hbf
          exact p cv dx ρ1 G1 H1 σ1 s1 er⟩
end
end DL

namespace DL
open PySem PySem.Spec PyProof.Rows L2 GenW

/-! ### any, all: the loop over a generator -/
def aLoop (d : Bool) : String := if d then "any.loop" else "all.loop"
def aName (d : Bool) : String := if d then "any" else "all"
section
variable {prog : Program} {w : World} {A : Around} {R : Result → Shared → Prop} {a : Addr}
theorem any_loop (d : Bool) (St : Nat → Shared → Prop) (hN : ∀ n s, St n s → wpAny (model prog w) A.in1 (pyNext (.ref a)) (fun r s' => match r with
      | none => R (.ok (.ret (.bool (!d)))) s'
      | some v => ∃ b, v = .bool b ∧ if b = d then R (.ok (.ret (.bool d))) s' else ∃ m, m < n ∧ St m s') (fun e s' => R (.error e) s') s) :
    ∀ n s, St n s → codeAny (model prog w) A (.builtin (aLoop d) ⟨[.ref a], []⟩) R s := by
  intro n
  induction n using Nat.strongRecOn with
  | ind n ih =>
    intro s hs
    cases d with
    | true =>
      show codeAny _ A (.builtin "any.loop" _) _ _
      refine codeAny_builtin F.entry_any_loop ?_
      rw [Around.under_plainId F.plain_any_loop _]
      show wpAny _ A.in1 (pyNext (.ref a) >>= _) _ _ s
      refine wpAny_bind (wpAny_mono (hN n s hs) (fun r s' h => ?_) fun _ _ e => e)
      cases r with
      | none => exact wpAny_bind (wpAny_rule (wpAny_pure h))
      | some v =>
        obtain ⟨b, rfl, h⟩ := h
        refine wpAny_bind (wpAny_holding (wpAny_truthy_bool ?_))
        refine wpAny_bind (wpAny_letGo ?_)
        cases b with
        | true =>
          simp only [if_true] at h ⊢
          exact wpAny_bind (wpAny_rule (wpAny_pure h))
        | false =>
          simp only [Bool.false_eq_true, if_false] at h ⊢
          obtain ⟨m, hm, q⟩ := h
          exact wpAny_pure ⟨plainId_quiet F.plain_any_loop _, ih m hm s' q⟩
    | false =>
      show codeAny _ A (.builtin "all.loop" _) _ _
      refine codeAny_builtin F.entry_all_loop ?_
      rw [Around.under_plainId F.plain_all_loop _]
      show wpAny _ A.in1 (pyNext (.ref a) >>= _) _ _ s
      refine wpAny_bind (wpAny_mono (hN n s hs) (fun r s' h => ?_) fun _ _ e => e)
      cases r with
      | none => exact wpAny_bind (wpAny_rule (wpAny_pure h))
      | some v =>
        obtain ⟨b, rfl, h⟩ := h
        refine wpAny_bind (wpAny_holding (wpAny_truthy_bool ?_))
        refine wpAny_bind (wpAny_letGo ?_)
        cases b with
        | false =>
          simp only [Bool.false_eq_true, if_false, if_true] at h ⊢
          exact wpAny_bind (wpAny_rule (wpAny_pure h))
        | true =>
          simp only [if_true, Bool.true_eq_false, if_false] at h ⊢
          obtain ⟨m, hm, q⟩ := h
          exact wpAny_pure ⟨plainId_quiet F.plain_all_loop _, ih m hm s' q⟩
theorem any_call (d : Bool) {x : Value} {Q : Value → Shared → Prop} {E : Value → Shared → Prop} {s : Shared} (h : wpAny (model prog w) A.in1 (pyIter x) (fun it s2 => ∃ a, it = .ref a ∧ codeAny (model prog w) A (.builtin (aLoop d) ⟨[.ref a], []⟩) (fun r s' => match r with
      | .ok (.ret v) => Q v s'
      | .ok _ => False
      | .error e => E e s') s2) E s) : wpAny (model prog w) A (call (.builtin (aName d)) [x]) Q E s := by
  cases d with
  | true =>
    refine call_function_tree F.kind_any F.plain_any F.entry_any (F.args_any1 _) ?_
    unfold Builtin.«any»
    refine wpAny_bind (m := oneArg "any" _) (wpAny_pure ?_)
    refine wpAny_bind (wpAny_mono h (fun it s₂ h₂ => ?_) fun _ _ e => e)
    obtain ⟨a, rfl, h2⟩ := h₂
    refine wpAny_pure ⟨plainId_quiet F.plain_any_loop _, ?_⟩
    exact h2
  | false => 
    refine call_function_tree F.kind_all F.plain_all F.entry_all (F.args_all1 _) ?_
    unfold Builtin.«all»
    refine wpAny_bind (m := oneArg "all" _) (wpAny_pure ?_)
    refine wpAny_bind (wpAny_mono h (fun it s₂ h₂ => ?_) fun _ _ e => e)
    obtain ⟨a, rfl, h2⟩ := h₂
    exact wpAny_pure ⟨plainId_quiet F.plain_all_loop _, h2⟩
end

/-! ### code objects with their tables -/
def CodeSrc (X : Cx) (H : Hp) (c P : Addr) : Prop := X.env.code = .ref c ∧ (PySem.W.CodeHd X.base c P ∨ ∃ q, H c = some (CodeP c q P))
/-- the code object is found in the table, or new -/
def MadeC (P : Addr) (ps : Array Value) (q : Str) (H1 H2 : Hp) (c' : Addr) : Prop :=
  (H2 = H1 ∧ ∃ pos, codeAmong pos ps.toList = some (.ref c')) ∨
  (∃ (pos : Pos) (P' : Addr), codeAmong pos ps.toList = none ∧ H1 c' = none ∧ H1 P' = none ∧ c' ≠ P' ∧ H2 = upd (upd (upd H1 P (.tbl (ps ++ #[rawInt pos.line, rawInt pos.col, .ref c']))) c' (CodeP c' q P')) P' (.tbl #[]))
section
variable {X : Cx} {pins : List (Addr × Obj)} {σ : L2.St} {H : Hp} {s : Shared}
theorem inv_made {P c P' : Addr} {q : Str} {ps more : Array Value} {h' : Heap} {t' : Nat} (I : Inv X pins σ H s) (hP : H P = some (.tbl ps)) (k : ∀ b o, b ≠ P → s.heap.get? b = some o → h'.get? b = some o)
    (hm : h'.get? P = some { cls := .none, data := .fields (ps ++ more) }) (hc : s.heap.objs.size ≤ c) (hc2 : s.heap.objs.size ≤ P') (hne : c ≠ P') (cd : PySem.W.CodeHd h' c P') (rc : h'.CodeRec (.ref c) q) (hm2 : h'.get? P' = some { cls := .none, data := .fields #[] }) :
    Inv X pins σ (upd (upd (upd H P (.tbl (ps ++ more))) c (CodeP c q P')) P' (.tbl #[])) { s with heap := h', toks := t' } := by
  have nC : H c = none := I.hok.fresh hc
  have nP' : H P' = none := I.hok.fresh hc2
  have nPc : P ≠ c := ne_of_none hP nC
  have nPP : P ≠ P' := ne_of_none hP nP'
  obtain ⟨HZ, eZ⟩ : ∃ HZ, HZ = upd (upd (upd H P (.tbl (ps ++ more))) c (CodeP c q P')) P' (.tbl #[]) := ⟨_, rfl⟩
  rw [← eZ]
  have at_ : ∀ b, b ≠ P → b ≠ c → b ≠ P' → HZ b = H b := fun b h1 h2 h3 => by rw [eZ, upd_ne h3, upd_ne h2, upd_ne h1]
  have atP : HZ P = some (.tbl (ps ++ more)) := by rw [eZ, upd_ne nPP, upd_ne nPc, upd_same]
  have atC : HZ c = some (CodeP c q P') := by rw [eZ, upd_ne hne, upd_same]
  have atQ : HZ P' = some (.tbl #[]) := by rw [eZ, upd_same]
  have nP : ∀ b u, H b = some u → (∀ q, u ≠ .tbl q) → b ≠ P := fun b u e q z => by
    rw [z, hP] at e
    exact q ps (Option.some.inj e).symm
  have nN : ∀ b, H b = none → b ≠ P := fun b e z => by
    rw [z, hP] at e
    cases e
  have lt' : ∀ b o, s.heap.get? b = some o → b ≠ c ∧ b ≠ P' := fun b o e => by
    have := Heap.lt_size e
    refine ⟨fun z => ?_, fun z => ?_⟩
    · rw [z] at this; exact Nat.lt_irrefl _ (Nat.lt_of_lt_of_le this hc)
    · rw [z] at this; exact Nat.lt_irrefl _ (Nat.lt_of_lt_of_le this hc2)
  have sm : ∀ b u, H b = some u → b ≠ c := fun b u e => ne_of_none e nC
  have sm2 : ∀ b u, H b = some u → b ≠ P' := fun b u e => ne_of_none e nP'
  refine I.step (g' := s.gens) (d' := s.drawn) (ch := []) (fun b hb => absurd hb (by simp)) (fun b o _ _ _ e n => k b o (nN b n) e) (fun b o _ _ _ e n => ⟨o.slots, k b o (nN b n) e⟩)
    (fun b o _ e n => by rw [at_ b (nN b n) (lt' b o e).1 (lt' b o e).2]; exact n) (fun b o _ e => ?_) (fun b xs e => by rw [at_ b (nP b _ e (fun q z => by cases z)) (sm b _ e) (sm2 b _ e)]; exact e) (fun b o u e => by rw [at_ b (nP b _ e (fun q z => by cases z)) (sm b _ e) (sm2 b _ e)]; exact e) (fun b qs e => ?_) (fun m hn => ?_) (fun b u e => ?_) I.bare
  · by_cases hb : b = P
    · rw [hb]
      exact ⟨_, hm⟩
    · exact ⟨o, k b o hb e⟩
  · by_cases hb : b = P
    · rw [hb, hP] at e
      cases e
      rw [hb, atP]
      exact ⟨more, rfl⟩
    · rw [at_ b hb (sm b _ e) (sm2 b _ e), e]
      exact ⟨#[], by simp⟩
  · obtain ⟨ob, es, ep, ho, r⟩ := hn
    exact ⟨ob, es, ep, k _ ob (nN _ I.free) ho, r⟩
  · by_cases hb : b = c
    · rw [hb, atC] at e
      cases e
      rw [hb]
      refine ⟨⟨cd, rc⟩, ?_, fun h1 h2 ⟨x1, x2⟩ st => ⟨?_, ?_⟩⟩
      · obtain ⟨o, _, _, _, _, _, _, _, _, e1, _⟩ := cd
        exact ⟨o, e1⟩
      · obtain ⟨o, v1, v2, v3, v4, v5, v6, v7, v8, e1, r⟩ := x1
        exact ⟨o, v1, v2, v3, v4, v5, v6, v7, v8, st _ e1, r⟩
      · obtain ⟨c2, o, v1, v2, e0, e1, r⟩ := x2
        cases e0
        exact ⟨c, o, v1, v2, rfl, st _ e1, r⟩
    · by_cases hb2 : b = P
      · rw [hb2, atP] at e
        cases e
        rw [hb2]
        exact hm
      · by_cases hb3 : b = P'
        · rw [hb3, atQ] at e
          cases e
          rw [hb3]
          exact hm2
        · rw [at_ b hb2 hb hb3] at e
          refine (I.hok b u e).stay (fun d v hd q => k d v ?_ q) (fun d q => by rw [at_ d (nP d _ q (fun q z => by cases z)) (sm d _ q) (sm2 d _ q)]; exact q) fun d xs q => by rw [at_ d (nP d _ q (fun q z => by cases z)) (sm d _ q) (sm2 d _ q)]; exact q
          rcases hd with z | z
          · rw [z]
            exact hb2
          · exact nP d _ z (fun q z => by cases z)
theorem inv_regen {s' : Shared} (I : Inv X pins σ H s) (hh : s'.heap = s.heap) (ho : s'.os = s.os) (hg : AllBare s'.gens) : Inv X pins σ H s' :=
  ⟨I.ok, ho.trans I.os, hg, hh ▸ I.base, hh ▸ I.loc, hh ▸ I.cell, I.free, I.freeC, hh ▸ I.pin, hh ▸ I.hok, I.len⟩

/-! ### the generator's frame -/
abbrev gcx (X : Cx) (s : Shared) (H : Hp) (env : Env) (fp : List Addr) (p : Addr × Obj) : Cx :=
  { X with A := X.A.in1.in1.deeper env, s_0 := s, H_0 := H, env := env, outer := X.stack, stack := env :: X.stack, ex := fp, fn := fun _ => false, pn := [p], xe := fun _ _ => False }
theorem gen_over {A : Around} {elt tg iter : Expr} {ifs : List Expr} {scope : Scope} {pos : Pos} {it acc : Value} {env : Env} : A.over (.compLoop (.GeneratorExp elt [⟨tg, iter, ifs, 0⟩] scope pos) 0 it acc env) [] = A.deeper env := by rfl
theorem gen_start {scope : Scope} {own : List (Str × Nat)} {fp : List Addr} {code : Value} {h5 : Heap} {tk : Nat} {gs : Array GenState} {a : Addr} {ob : Obj} {m : Str → Option Value}
    (I : Inv X pins σ H s) (hc : X.calm = true) (ok : BlkOk X.N X.env.scope scope own) (nc : ∀ y ∈ scope.names, y.2 ≠ .cell) (hN : X.N.Nodup) (hfp : ∀ b ∈ fp, FpOk X pins H b ∧ b < s.heap.objs.size)
    (hns : h5.Ns s.heap.objs.size m) (kp : ∀ b o, s.heap.get? b = some o → h5.get? b = some o) (ha : h5.get? a = some ob) (ha2 : s.heap.objs.size < a) (hob : ∀ v, ob.data ≠ .cell v) (hgs : AllBare gs) :
    Inv (gcx X s H (genEnv scope (cloFrom X.env.cells scope.names []) s.heap.objs.size code builtinsNs X.env) fp (a, ob)) [] (wipe σ (own.map (·.2))) H { s with heap := h5, gens := gs, toks := tk } := by
  have hfree : ∀ y ∈ scope.names, y.2 = .free → ∃ c, X.env.cells.lookup y.1 = some c := fun y hy e => by
    rcases ok.free y hy e with k | k
    · exact I.ok.has _ (.inl k)
    · exact I.ok.has _ (.inr k)
  have cm : ∀ {y c}, (y, c) ∈ cloFrom X.env.cells scope.names [] → X.env.cells.lookup y = some c ∧ c < s.heap.objs.size := fun {y c} hm => by
    rcases cloFrom_mem hm with hm | ⟨h1, rfl⟩
    · cases hm
    · obtain ⟨c, hc⟩ := hfree _ h1 rfl
      rw [hc]
      obtain ⟨w, z⟩ := I.cell _ _ hc
      exact ⟨rfl, z.lt⟩
  have mem : ∀ {y c}, (cloFrom X.env.cells scope.names []).lookup y = some c → X.env.cells.lookup y = some c ∧ c < s.heap.objs.size := fun {y c} e => cm (PySem.mem_of_lookup e)
  have look : ∀ {y}, scope.names.lookup y = some .free → ∃ c, (cloFrom X.env.cells scope.names []).lookup y = some c ∧ X.env.cells.lookup y = some c := fun {y} hl => by
    have hy : (y, NameKind.free) ∈ scope.names := PySem.mem_of_lookup hl
    obtain ⟨c', e'⟩ := mem_lookup (cloFrom_has (cells := X.env.cells) (acc := []) hy)
    exact ⟨c', e', (mem e').1⟩
  have cellK : ∀ {c : Addr} {v : Option Value}, s.heap.IsCell c v → h5.IsCell c v := fun {c v} ⟨o, ho, hd⟩ => ⟨o, kp _ _ ho, hd⟩
  refine ⟨⟨I.ok.mod, ok.kind, I.ok.glob, rfl, Nat.le_refl _, fun y z c e1 e2 => I.ok.inj y z c (mem e1).1 (mem e2).1, fun y hy => ?_, fun y c z e => ?_, fun _ => I.ok.hd hc, Around.frames_deeper I.ok.frames, .inr ⟨rfl, rfl⟩, fun b hb => ⟨Nat.ne_of_lt (hfp b hb).2, fun y c e z => ?_⟩, I.bs, Nat.le_trans I.ok.bsz I.sz, fun b o e hb => ?_, fun b hb z => ?_, I.stack, I.stkFree⟩,
    rfl, hgs, Un.kept kp, ⟨m, hns, fun i y av e1 e2 e3 => ?_⟩, fun y c e => ?_, I.hok.fresh (Nat.le_refl _), fun y c e => ?_, fun p hp => ?_, I.hok.kept kp, by rw [wipe_length]; exact I.len⟩
  · rcases hy with hy | hy
    · exact absurd rfl (nc _ (PySem.mem_of_lookup hy))
    · obtain ⟨c, h1, _⟩ := look hy
      exact ⟨c, h1⟩
  · have z : false = true := z
    cases z
  · exact (hfp b hb).1.2.2.2.2.1 y c (mem e).1 z
  · rcases (hfp b hb).1.2.2.2.1 with z | z
    · exact I.ok.noex b o e z
    · exact absurd (Nat.lt_of_lt_of_le (Heap.lt_size e) (Nat.le_trans I.ok.bsz z)) (Nat.lt_irrefl _)
  · rcases List.mem_cons.mp (I.stkSub b z) with z | z
    · exact (hfp b hb).1.2.1 z
    · exact (hfp b hb).1.2.2.1 z
  · obtain ⟨e2, hne⟩ := wipe_some e2
    have no : ∀ k', scope.names.lookup y = some k' → ¬ (k' = .local ∨ k' = .cell) := fun k' e hh => by
      rcases ok.own _ (PySem.mem_of_lookup e) hh with e' | e'
      · obtain ⟨p, hp, hpy⟩ := List.mem_map.mp e'
        have e3 := ok.ix p hp
        have : p.1 = y := hpy
        rw [this] at e3
        exact hne (List.mem_map.mpr ⟨p, hp, nodup_ix hN e3 e1⟩)
      · exact e' (List.mem_of_getElem? e1)
    have fr : scope.names.lookup y = some .free := by
      rcases e3 with e3 | e3 | e3
      · exact absurd (.inl rfl) (no _ e3)
      · exact absurd (.inr rfl) (no _ e3)
      · exact e3
    obtain ⟨m', hn, hl⟩ := I.loc
    have hvis : Vis X.env.scope y := (ok.free _ (PySem.mem_of_lookup fr) rfl).elim (fun k => .inr (.inl k)) (fun k => .inr (.inr k))
    obtain ⟨w, r, q⟩ := hl i y av e1 e2 hvis
    refine ⟨w, r, .inr ⟨.inr fr, ?_⟩⟩
    obtain ⟨c, h1, h2⟩ := look fr
    rcases q with ⟨k, _⟩ | ⟨_, c', e', z⟩
    · have k : X.env.scope.names.lookup y = some .local := k
      rcases ok.free _ (PySem.mem_of_lookup fr) rfl with k' | k' <;> rw [show X.env.scope.names.lookup y = _ from k'] at k <;> cases k
    · rw [h2] at e'; cases e'
      exact ⟨c, h1, cellK z⟩
  · obtain ⟨w, z⟩ := I.cell y c (mem e).1
    exact ⟨w, cellK z⟩
  · exact I.freeC y c (mem e).1
  · have e : p = (a, ob) := by simpa using (show p ∈ [(a, ob)] ++ [] from hp)
    subst e
    refine ⟨ha, I.hok.fresh (Nat.le_of_lt ha2), Nat.ne_of_gt ha2, fun z => ?_, hob⟩
    have z : a ∈ frs X.stack := z
    rcases List.mem_cons.mp (I.stkSub a z) with z | z
    · have := I.lt; rw [← z] at this; exact Nat.lt_irrefl _ (Nat.lt_trans this ha2)
    · exact I.nofs (Nat.le_of_lt ha2) z
end
end DL

namespace DL
open PySem PySem.Spec PyProof.Rows L2 GenW

/-! ### the generator's run -/
section
variable {Z : Cx} (σ0 : L2.St) (d : Bool) (Qt Qf : Hp → Prop)
/-- the end; a yield -/
def GnR (Z : Cx) : GenEnd := fun _ _ r s₁ => r = .ok .next ∧ ∃ H, Inv Z [] σ0 H s₁ ∧ Qf H
def GnY (Z : Cx) : Protocol := fun _ _ v s kap => ∃ (b : Bool) (H : Hp), v = .bool b ∧ Inv Z [] σ0 H s ∧ if b = d then Qt H else ∀ s'' : Shared, s''.heap = s.heap → s''.os = s.os → AllBare s''.gens → kap (.send .none) s''
end
section
variable {Z : Cx} {σ0 : L2.St} {d : Bool} {Qt Qf : Hp → Prop} {A2 : Around} {elt tg iter : Expr} {ifs : List Expr} {scope : Scope} {pos : Pos} {vs : List Nat} {J : It} {fp : List Addr} {it a : Addr} {ob : Obj} {tn : Nat → Heap → Prop} {g : TG} {tt : TT} {te : TE}
theorem seg_gen (hov : A2.deeper Z.env = Z.A) (hpn : Z.pn = [(a, ob)]) (hexc : Z.xe = fun _ _ => False) (hc : Z.calm = true) (hco : Z.env.scope.isCoroutine = false) (hex : Z.ex = fp) (haf : ∀ b ∈ fp, a ≠ b) (hw0 : wipe σ0 vs = σ0) (T : Turn Z.prog Z.w Z.K tg J fp it tn)
    (pg : PG Z tg g) (pt : PTs Z ifs tt) (pe : PE Z elt te) (W : Nat → Nat → Hp → Prop)
    (turn : ∀ i m H, W i m H → (J.stop i H ∧ Qf H) ∨ (J.go i H ∧ ∃ Nx : Hp → Prop, (∀ H', Nx H' → ∃ m', m' < m ∧ W (i + 1) m' H') ∧ ∀ x H', J.yld i H x H' → g x σ0 H' fun σ2 H2 => wipe σ2 vs = σ0 ∧ tt σ2 H2 fun b H3 =>
      if b = true then te σ2 H3 fun y H4 => ∃ b : Bool, y = .bl b ∧ (if b = d then Qt H4 else Nx H4) else Nx H3)) :
    ∀ (m n i : Nat) (s₀ s : Shared) (H : Hp), m + 1 ≤ n → W i m H → Inv Z [] σ0 H s → tn i s.heap → (∀ b ∈ fp, H b = none) →
      Seg (model Z.prog Z.w) A2 (GnR σ0 Qf Z) (GnY σ0 d Qt Z) n s₀ (.compLoop (.GeneratorExp elt [⟨tg, iter, ifs, 0⟩] scope pos) 0 (.ref it) .none Z.env)
        ((model Z.prog Z.w).den (.compLoop (.GeneratorExp elt [⟨tg, iter, ifs, 0⟩] scope pos) 0 (.ref it) .none Z.env)) [] s := by
  have stat : ∀ {σ' : L2.St} {H' : Hp} {s' : Shared}, Inv Z [] σ' H' s' → (∀ b ∈ fp, H' b = none) → ∀ b ∈ fp, FpOk Z [] H' b := fun {σ' H' s'} I' hn b hb => by
    have hb2 : b ∈ Z.ex := by rw [hex]; exact hb
    refine ⟨hn b hb, (I'.ok.exf b hb2).1, I'.ok.exfs b hb2, .inl hb2, fun x c e => (I'.ok.exf b hb2).2 x c e, fun p hp => ?_⟩
    rw [hpn] at hp
    have e : p = (a, ob) := by simpa using hp
    subst e
    exact haf b hb
  have hov2 : A2.over (.compLoop (.GeneratorExp elt [⟨tg, iter, ifs, 0⟩] scope pos) 0 (.ref it) .none Z.env) [] = Z.A := (gen_over (it := .ref it)).trans hov
  intro m
  induction m using Nat.strongRecOn with
  | ind m ih =>
    intro n i s₀ s H hmn hW I st nf
    show Seg _ A2 _ _ _ s₀ _ ((compTurn (.GeneratorExp elt [⟨tg, iter, ifs, 0⟩] scope pos) 0 (.ref it) .none Z.env).onRaise (leaving Z.env)) [] s
    rw [compTurn_gen, Sem.onRaise_eq_wrap]
    refine seg_bind_wrap (wpAny_standAt ?_)
    refine seg_bind_wrap ?_
    rw [hov2]
    rcases turn i m H hW with ⟨stop, q⟩ | ⟨go, Nx, hNx, step⟩
    · refine thnF (T.done Z rfl rfl rfl hc i [] s σ0 H (fun _ _ => False) I (stat I nf) st stop) fun r s1 ⟨hr, I1⟩ => ?_
      subst hr
      exact seg_end (.ok .next) ⟨rfl, H, I1, q⟩
    · refine thnF (T.item Z rfl rfl rfl hc i [] s σ0 H (fun _ _ => False) I (stat I nf) st go) fun r s1 ⟨u, hr, h1⟩ => ?_
      subst hr
      refine seg_bind_wrap ?_
      rw [hov2]
      refine thnF h1 fun _ s2 ⟨x, H2, I2, r2, y2, st2, n2⟩ => ?_
      have I2' := I2.pinned (stat I2 n2) (T.obj _ _ st2)
      refine seg_bind_wrap ?_
      rw [hov2]
      have e1 := pg.run _ s2 _ H2 x u _ I2' r2 (step x H2 y2)
      rw [hexc] at e1
      refine thnF e1 fun _ s3 ⟨σ3, H3, I3, hw3, q3⟩ => ?_
      refine seg_bind_wrap ?_
      rw [hov2]
      have e2 := pt.run _ s3 σ3 H3 _ I3 q3
      rw [hexc] at e2
      refine thnF e2 fun b s4 ⟨H4, I4, q4⟩ => ?_
      -- the turn's end
      have fin : ∀ {s' : Shared} {H' : Hp}, Inv Z ([] ++ pinsAt fp s2.heap) σ3 H' s' → Inv Z [] σ0 H' s' ∧ tn (i + 1) s'.heap ∧ ∀ b ∈ fp, H' b = none := fun {s' H'} I' => by
        have pin' : ∀ b ∈ fp, ∀ o, s2.heap.get? b = some o → s'.heap.get? b = some o ∧ H' b = none := fun b hb o e =>
          let z := I'.pin (b, o) (List.mem_append_right _ (List.mem_append_right _ (mem_pinsAt hb e)))
          ⟨z.1, z.2.1⟩
        have hl : σ0.length = σ3.length := by rw [← hw3, wipe_length]
        refine ⟨(I'.unpinned (pins := [])).weak hl (fun j v e => ?_), T.keep _ _ _ st2 fun b hb o e => (pin' b hb o e).1, fun b hb => ?_⟩
        · rw [← hw3] at e
          exact (wipe_some e).1
        · obtain ⟨o, e, _⟩ := T.obj _ _ st2 b hb
          exact (pin' b hb o e).2
      cases b with
      | false =>
        simp only [Bool.false_eq_true, if_false] at q4 ⊢
        obtain ⟨I5, st5, n5⟩ := fin I4
        obtain ⟨m', hm, w'⟩ := hNx H4 q4
        exact seg_again rfl (ih m' hm n (i + 1) s₀ _ H4 (by omega) w' I5 st5 n5)
      | true =>
        simp only [if_true] at q4 ⊢
        have hy : ∀ v, yieldOut Z.env v = yieldValue v := fun v => by simp only [yieldOut, hco, Bool.false_eq_true, if_false]
        simp only [hy]
        rw [Sem.bind_eq_wrap', Sem.bind_eq_wrap', Sem.wrap_wrap, Sem.wrap_wrap]
        refine seg_wrap ?_
        rw [hov2]
        have e3 := pe.run _ s4 σ3 H4 _ I4 q4
        rw [hexc] at e3
        refine thnF e3 fun z s5 ⟨yv, H5, I5, r5, b, eb, q5⟩ => ?_
        subst eb
        cases r5
        obtain ⟨n', rfl⟩ : ∃ n', n = n' + 1 := ⟨n - 1, by omega⟩
        obtain ⟨I6, st6, n6⟩ := fin I5
        refine seg_at (seg_yield rfl rfl rfl ⟨b, H5, rfl, I6, ?_⟩)
        by_cases hb : b = d
        · rw [if_pos hb] at q5 ⊢
          exact q5
        · rw [if_neg hb] at q5 ⊢
          intro s'' hh ho hg
          obtain ⟨m', hm, w'⟩ := hNx H5 q5
          exact seg_again rfl (ih m' hm n' (i + 1) s'' s'' H5 (by omega) w' (inv_regen I6 hh ho hg) (by rw [hh]; exact st6) n6)
theorem seg_gen0 (hov : A2.deeper Z.env = Z.A) (hpn : Z.pn = [(a, ob)]) (hexc : Z.xe = fun _ _ => False) (hc : Z.calm = true) (hco : Z.env.scope.isCoroutine = false) (hex : Z.ex = fp) (haf : ∀ b ∈ fp, a ≠ b) (hw0 : wipe σ0 vs = σ0) (T : Turn Z.prog Z.w Z.K tg J fp it tn)
    (pg : PG Z tg g) (pt : PTs Z ifs tt) (pe : PE Z elt te) (W : Nat → Nat → Hp → Prop)
    (turn : ∀ i m H, W i m H → (J.stop i H ∧ Qf H) ∨ (J.go i H ∧ ∃ Nx : Hp → Prop, (∀ H', Nx H' → ∃ m', m' < m ∧ W (i + 1) m' H') ∧ ∀ x H', J.yld i H x H' → g x σ0 H' fun σ2 H2 => wipe σ2 vs = σ0 ∧ tt σ2 H2 fun b H3 =>
      if b = true then te σ2 H3 fun y H4 => ∃ b : Bool, y = .bl b ∧ (if b = d then Qt H4 else Nx H4) else Nx H3))
    {m : Nat} {s₀ s : Shared} {H : Hp} (hW : W 0 m H) (I : Inv Z [] σ0 H s) (st : tn 0 s.heap) (nf : ∀ b ∈ fp, H b = none) :
      Seg (model Z.prog Z.w) A2 (GnR σ0 Qf Z) (GnY σ0 d Qt Z) (m + 1) s₀ (.compStart (.GeneratorExp elt [⟨tg, iter, ifs, 0⟩] scope pos) 0 (.ref it) .none Z.env)
        ((model Z.prog Z.w).den (.compStart (.GeneratorExp elt [⟨tg, iter, ifs, 0⟩] scope pos) 0 (.ref it) .none Z.env)) [] s := by
  have loop := seg_gen (iter := iter) (scope := scope) (pos := pos) hov hpn hexc hc hco hex haf hw0 T pg pt pe W turn m (m + 1) 0 s₀ s H (Nat.le_refl _) hW I st nf
  show Seg _ A2 _ _ _ s₀ _ ((compStart (.GeneratorExp elt [⟨tg, iter, ifs, 0⟩] scope pos) 0 (.ref it) .none Z.env).onRaise (leaving Z.env)) [] s
  unfold compStart
  rw [Sem.onRaise_eq_wrap]
  show Seg _ A2 _ _ _ s₀ _ ((ask >>= _).wrap _ _ _ _) [] s
  refine seg_bind_wrap (wpAny_askSetting ?_)
  split
  · exact seg_again rfl loop
  · first
      | exact seg_bind_wrap (wpAny_rule (seg_bind_wrap (wpAny_standAt (seg_bind_wrap (T.self _ 0 s _ _ st (seg_again rfl loop))))))
      | (refine seg_bind_wrap (wpAny_rule ?_); show Seg _ A2 _ _ _ s₀ _ ((standAt iter.pos >>= _).wrap _ _ _ _) [] s; exact seg_bind_wrap (wpAny_standAt (seg_bind_wrap (T.self _ 0 s _ _ st (seg_again rfl loop)))))
end
end DL

namespace DL
open PySem PySem.Spec PyProof.Rows L2 GenW

theorem bare_set {s : Shared} {g : Nat} {x : GenState} (h : AllBare s.gens) (hx : x.bare = true) : AllBare (s.setGen g x).gens := fun y hy => by
  simp only [Shared.setGen] at hy
  rcases Array.mem_or_eq_of_mem_setIfInBounds hy with h1 | h1
  · exact h _ h1
  · rw [h1]; exact hx
theorem wipe_wipe {σ : L2.St} {vs : List Nat} : wipe (wipe σ vs) vs = wipe σ vs := wipe_eq (wipe_length σ vs) fun j hj => wipe_out2 hj
/-- any (d), all of (elt for tg in iter if ..), elt a bool; c': the code object of the generator -/
def tAny (X : Cx) (d : Bool) (q : Str) (wi : TI) (g : TG) (tt : TT) (te : Addr → TE) (vs : List Nat) : TE := fun σ H Q => wi σ H fun J H1 => ∃ (c P : Addr) (ps : Array Value), CodeSrc X H1 c P ∧ H1 P = some (.tbl ps) ∧ TriplesOk ps.toList ∧
  (∀ pos cv, codeAmong pos ps.toList = some cv → ∃ c', cv = .ref c') ∧ ∀ c' H2, MadeC P ps q H1 H2 c' → ∃ W : Nat → Nat → Hp → Prop, (∃ m, W 0 m H2) ∧ ∀ i m H, W i m H →
    (J.stop i H ∧ Q (.bl (!d)) H) ∨ (J.go i H ∧ ∃ Nx : Hp → Prop, (∀ H', Nx H' → ∃ m', m' < m ∧ W (i + 1) m' H') ∧ ∀ x H', J.yld i H x H' → g x (wipe σ vs) H' fun σ2 H2 => wipe σ2 vs = wipe σ vs ∧ tt σ2 H2 fun b H3 =>
      if b = true then te c' σ2 H3 fun y H4 => ∃ b : Bool, y = .bl b ∧ (if b = d then Q (.bl d) H4 else Nx H4) else Nx H3)
section
variable {X : Cx} {pins : List (Addr × Obj)} {σ : L2.St} {H : Hp} {s : Shared}
theorem gen_any (d : Bool) {elt tg iter : Expr} {ifs : List Expr} {scope : Scope} {own : List (Str × Nat)} {gpos : Pos} {wi : TI} {g : TG} {tt : TT} {te : Addr → TE} {Q : VK} {Q' : Value → Shared → Prop}
    (hr : Room 3 X.A) (hc : X.calm = true) (BM : ∃ P0, X.base.BuiltinsAt X.mg P0) (hN : X.N.Nodup) (hi : PI X tg iter wi) (ok : BlkOk X.N X.env.scope scope own) (nc : ∀ y ∈ scope.names, y.2 ≠ .cell) (hdot : scope.names.lookup (".0" : Str) = some NameKind.local) (hco : scope.isCoroutine = false)
    (hpg : ∀ (s : Shared) (H : Hp) (C : Addr) (cl : List (Str × Addr)) (c' : Addr) (fp : List Addr) (p : Addr × Obj), PG (gcx X s H (genEnv scope cl C (.ref c') builtinsNs X.env) fp p) tg g)
    (ht : ∀ (s : Shared) (H : Hp) (C : Addr) (cl : List (Str × Addr)) (c' : Addr) (fp : List Addr) (p : Addr × Obj), PTs (gcx X s H (genEnv scope cl C (.ref c') builtinsNs X.env) fp p) ifs tt)
    (he : ∀ (s : Shared) (H : Hp) (C : Addr) (cl : List (Str × Addr)) (c' : Addr) (fp : List Addr) (p : Addr × Obj), PE (gcx X s H (genEnv scope cl C (.ref c') builtinsNs X.env) fp p) elt (te c'))
    (hs : ∀ v, genFold iter X.env v = pure v) (I : Inv X pins σ H s) (h : tAny X d (X.env.qual ++ "<genexpr>") wi g tt te (own.map (·.2)) σ H Q)
    (hQ : ∀ a s5, (∃ g, s5.heap.IsGen a g) → (∀ R : Result → Shared → Prop, (∀ b H' s', Inv X pins σ H' s' → Q (.bl b) H' → R (.ok (.ret (.bool b))) s') → codeAny (model X.prog X.w) X.A (.builtin (aLoop d) ⟨[.ref a], []⟩) R s5) → Q' (.ref a) s5) :
    wpAny (model X.prog X.w) X.A (eval (.GeneratorExp elt [⟨tg, iter, ifs, 0⟩] scope gpos) X.env) Q' X.xe s := by
  have hfree : ∀ y ∈ scope.names, y.2 = .free → ∃ c, X.env.cells.lookup y.1 = some c := fun y hy e => by
    rcases ok.free y hy e with k | k
    · exact I.ok.has _ (.inl k)
    · exact I.ok.has _ (.inr k)
  refine wpAny_GeneratorExp_make hco (closure_ok hfree) nc hdot ok.kind (by have := hr.dp; omega) ?_ hs
  refine thn (hi.run pins s σ H _ I h) fun xv s1 h1 => thn h1 fun itv s2 h2 => ?_
  obtain ⟨it, fp, tn, J, H1, rfl, I1, T, st1, f1, c, P, ps, ⟨hcode, src⟩, hP, htr, hamong, hcont⟩ := h2
  refine ⟨I1.nolimit, ?_⟩
  have hPs : s2.heap.get? P = some { cls := .none, data := .fields ps } := I1.hok P _ hP
  have cd : PySem.W.CodeHd s2.heap c P := by
    rcases src with z | ⟨q', z⟩
    · exact z.keeps I1.bk
    · exact (I1.hok c _ z).1.1
  have fpP : ∀ b ∈ fp, b ≠ P := fun b hb e => by
    have := (f1 b hb).1
    rw [e, hP] at this; cases this
  have fpl : ∀ b ∈ fp, b < s2.heap.objs.size := fun b hb => by
    obtain ⟨o, e, _⟩ := T.obj _ _ st1 b hb
    exact Heap.lt_size e
  have cont : ∀ (c' : Addr) (H2 : Hp) (h3 : Heap) (tk : Nat), MadeC P ps (X.env.qual ++ "<genexpr>") H1 H2 c' → Inv X pins σ H2 { s2 with heap := h3, toks := tk } → (∀ b o, b ≠ P → s2.heap.get? b = some o → h3.get? b = some o) → s2.heap.objs.size ≤ h3.objs.size → (∀ b ∈ fp, H2 b = none) →
      wpAny (model X.prog X.w) X.A (builtinsFor X.env.globals X.env.builtins) (fun bi s₄ =>
        ∀ h', h'.Ns s₄.heap.objs.size (fun y => if y = ".0" then some (.ref it) else none) → Heap.SameBut s₄.heap.objs.size (s₄.heap.push { cls := .type "frame", data := .dict #[] }) h' →
          Q' (.ref h'.objs.size) { s₄ with
            gens := s₄.gens.push (.fresh (.compStart (.GeneratorExp elt [⟨tg, iter, ifs, 0⟩] scope gpos) 0 (.ref it) .none (genEnv scope (cloFrom X.env.cells scope.names []) s₄.heap.objs.size (.ref c') bi X.env))),
            toks := s₄.toks + 1 + 1 + 1,
            heap := h'.push { cls := .type "generator", data := .fields #[.int s₄.gens.size 0, .str "<genexpr>" (s₄.toks + 1), .str (X.env.qual ++ "<genexpr>") (s₄.toks + 1 + 1)] } }) X.xe { s2 with heap := h3, toks := tk } := by
    intro c' H2 h3 tk made I3 k3 z3 n3
    obtain ⟨P0, bm, ob, e1, e2, e3, e4, e5, e6, e7, e8⟩ := BM
    have bP : bm ≠ P := fun e => by
      have q := I1.bk bm ob e5
      rw [e, hPs] at q; cases q; cases e8
    refine wpAny_builtinsFor (m := X.mg) (by rw [I3.ok.glob]; exact I3.mod.glob.keeps I3.bk) e1 e2 (I3.bk _ _ e5) e6 e7 e8 ?_
    intro h' hn' hs'
    generalize hs3 : ({ s2 with heap := h3, toks := tk } : Shared) = s3 at I3 hn' hs' ⊢
    have e3h : s3.heap = h3 := by rw [← hs3]
    have sz' : h'.objs.size = s3.heap.objs.size + 1 := by rw [hs'.1, Heap.size_push]
    generalize hob : ({ cls := .type "generator", data := .fields #[.int s3.gens.size 0, .str "<genexpr>" (s3.toks + 1), .str (X.env.qual ++ "<genexpr>") (s3.toks + 1 + 1)] } : Obj) = gob
    have kp' : ∀ b o, s3.heap.get? b = some o → h'.get? b = some o := fun b o e => hs'.extBut b o (Nat.ne_of_lt (Heap.lt_size e)) (Heap.get?_push_of_some _ e)
    have kp5 : ∀ b o, s3.heap.get? b = some o → (h'.push gob).get? b = some o := fun b o e => Heap.get?_push_of_some _ (kp' b o e)
    have ga : (h'.push gob).get? h'.objs.size = some gob := by
      rw [← hob]; exact Heap.get?_push_size _ rfl
    have ig : (h'.push gob).IsGen h'.objs.size s3.gens.size := by
      refine ⟨gob, .str "<genexpr>" (s3.toks + 1), .str (X.env.qual ++ "<genexpr>") (s3.toks + 1 + 1), ga, ?_⟩
      rw [← hob]; exact ⟨rfl, rfl, rfl⟩
    obtain ⟨W, ⟨m0, w0⟩, turn⟩ := hcont c' H2 made
    have f3 : ∀ b ∈ fp, FpOk X pins H2 b ∧ b < s3.heap.objs.size := fun b hb => ⟨⟨n3 b hb, (f1 b hb).2⟩, by rw [e3h]; exact Nat.lt_of_lt_of_le (fpl b hb) z3⟩
    have gob_nc : ∀ v, gob.data ≠ .cell v := fun v z => by rw [← hob] at z; cases z
    have I5 := gen_start (code := .ref c') (tk := s3.toks + 1 + 1 + 1) (gs := s3.gens.push (.fresh (.compStart (.GeneratorExp elt [⟨tg, iter, ifs, 0⟩] scope gpos) 0 (.ref it) .none (genEnv scope (cloFrom X.env.cells scope.names []) s3.heap.objs.size (.ref c') builtinsNs X.env))))
      (m := fun y => if y = ".0" then some (.ref it) else none) I3 hc ok nc hN f3 (hn'.push _) kp5 ga (by rw [sz']; exact Nat.lt_succ_self _) gob_nc (I3.bare.push rfl)
    generalize hZ : gcx X s3 H2 (genEnv scope (cloFrom X.env.cells scope.names []) s3.heap.objs.size (.ref c') builtinsNs X.env) fp (h'.objs.size, gob) = Z at I5
    have zE : Z.env = genEnv scope (cloFrom X.env.cells scope.names []) s3.heap.objs.size (.ref c') builtinsNs X.env := by rw [← hZ]
    have st5 : tn 0 (h'.push gob) := T.keep _ _ _ st1 fun b hb o e => kp5 b o (by rw [e3h]; exact k3 b o (fpP b hb) e)
    have haf : ∀ b ∈ fp, h'.objs.size ≠ b := fun b hb e => by
      have := (f3 b hb).2
      rw [← e, sz'] at this
      exact absurd this (Nat.not_lt.mpr (Nat.le_succ _))
    have back : ∀ {H' : Hp} {s' : Shared}, Inv Z [] (wipe σ (own.map (·.2))) H' s' → Inv X pins σ H' s' := fun {H' s'} I' => by
      have o1 := I'.os; have o2 := I'.base; have o3 := I'.hok; have o4 := I'.bare
      rw [← hZ] at o1 o2 o3
      exact I3.call' (ch := fp) o1 o2 o3 o4 fun b hb => ⟨(f3 b hb).1.2.2.2.1, (f3 b hb).1.2.1, (f3 b hb).1.2.2.2.2.1, (f3 b hb).1.2.2.2.2.2⟩
    have mZ : model X.prog X.w = model Z.prog Z.w := by rw [← hZ]
    have TZ : Turn Z.prog Z.w Z.K tg J fp it tn := by rw [← hZ]; exact T
    have pgZ : PG Z tg g := by rw [← hZ]; exact hpg _ _ _ _ _ _ _
    have ptZ : PTs Z ifs tt := by rw [← hZ]; exact ht _ _ _ _ _ _ _
    have peZ : PE Z elt (te c') := by rw [← hZ]; exact he _ _ _ _ _ _ _
    have seg0 := fun (s'' : Shared) (J' : Inv Z [] (wipe σ (own.map (·.2))) H2 s'') (st'' : tn 0 s''.heap) => seg_gen0 (A2 := X.A.in1.in1) (iter := iter) (scope := scope) (pos := gpos) (s₀ := s'') (d := d) (Qt := fun H => Q (.bl d) H) (Qf := fun H => Q (.bl (!d)) H) (ob := gob) (a := h'.objs.size)
      (by rw [← hZ]) (by rw [← hZ]) (by rw [← hZ]) (by rw [← hZ]; exact hc) (by rw [zE]; exact hco) (by rw [← hZ]) haf wipe_wipe TZ pgZ ptZ peZ W turn w0 J' st'' n3
    refine hQ h'.objs.size _ ⟨_, ig⟩ fun R hR => ?_
    refine any_loop d (fun n s => s3.gens.size < s.gens.size ∧ AllBare s.gens ∧ s.heap.IsGen h'.objs.size s3.gens.size ∧ s.heap.NoLimit ∧ ∃ gs, s.gens[s3.gens.size]? = some gs ∧ ∀ s'' : Shared, s''.heap = s.heap → s''.os = s.os → AllBare s''.gens →
      gs.Goes (model X.prog X.w) X.A.in1.in1 (GnR (wipe σ (own.map (·.2))) (fun H => Q (.bl (!d)) H) Z) (GnY (wipe σ (own.map (·.2))) d (fun H => Q (.bl d) H) Z) n (.send .none) s'') ?_ (m0 + 1) _
      ⟨by show _ < (s3.gens.push _).size; rw [Array.size_push]; exact Nat.lt_succ_self _, I5.bare, ig, I5.nolimit, _, Array.getElem?_push_size .., fun s'' eh eo eb => ⟨rfl, ?_⟩⟩
    · rintro n s6 ⟨hlt, hbare, hgen, hlim, gs, hgs, hgo⟩
      refine wpAny_gsz (n := s3.gens.size + 1) hlt ?_
      refine wpAny_pyNext_genexpQ (A := X.A.in1) (P := fun _ _ s₁ => ∃ H, Inv Z [] (wipe σ (List.map (fun x : Str × Nat => x.2) own)) H s₁ ∧ Q (.bl (!d)) H) hr.hd hlim (by show X.A.depth < _; have := hr.dp; omega) hgen hgs (hgo (s6.setGen s3.gens.size .running) rfl rfl (bare_set hbare rfl)) (fun v s₁ gs' hb hy => ?_) (fun s₁ hp hh hk => ?_)
      · obtain ⟨b, H', rfl, I', q⟩ := hy
        intro hsz
        refine ⟨b, rfl, ?_⟩
        have I'' : Inv Z [] (wipe σ (own.map (·.2))) H' (s₁.setGen s3.gens.size gs') := inv_regen I' rfl rfl (bare_set I'.bare hb)
        by_cases hbd : b = d
        · rw [if_pos hbd] at q ⊢
          exact hR d H' _ (back I'') q
        · rw [if_neg hbd] at q ⊢
          cases n with
          | zero => exact (q s₁ rfl rfl I'.bare).elim
          | succ m =>
            have hlt2 : s3.gens.size < s₁.gens.size := by
              have q2 : s3.gens.size + 1 ≤ (s₁.setGen s3.gens.size gs').gens.size := hsz
              rw [setGen_size] at q2
              exact q2
            have hpin : (h'.objs.size, gob) ∈ Z.pn ++ [] := by rw [← hZ]; simp [gcx]
            refine ⟨m, Nat.lt_succ_self _, hsz, I''.bare, ?_, I'.nolimit, gs', by simp [Shared.setGen, hlt2], fun s'' e1 e2 e3 => q s'' e1 e2 e3⟩
            refine ⟨gob, .str "<genexpr>" (s3.toks + 1), .str (X.env.qual ++ "<genexpr>") (s3.toks + 1 + 1), (I'.pin _ hpin).1, ?_⟩
            rw [← hob]; exact ⟨rfl, rfl, rfl⟩
      · obtain ⟨H', I', q⟩ := hp
        intro hsz
        have I1' : Inv Z [] (wipe σ (own.map (·.2))) H' { s₁ with heap := hh, toks := s₁.toks } := I'.kept hk
        have I2' : Inv Z [] (wipe σ (own.map (·.2))) H' { s₁.setGen s3.gens.size .finished with heap := hh } := inv_regen I1' rfl rfl (bare_set I'.bare rfl)
        exact hR (!d) H' _ (back I2') q
    · rw [← zE]
      have J' := inv_regen (s' := s'') I5 eh eo eb
      exact mZ ▸ seg0 s'' J' (by rw [eh]; exact st5)
  cases hf : codeAmong gpos ps.toList with
  | none =>
    refine wpAny_genexprCodeX hcode (cd.code hPs htr) (cd.tab hPs) hf fun c' h3 tk hx hge hlt hco' hrec htab' ⟨P', hP', hcode', htab2⟩ => ?_
    have ne : c' ≠ P' := by
      obtain ⟨_, _, _, _, _, _, _, _, _, _, _, _, _, _, _, _, _, _, _, _, q⟩ := hcode'
      exact q
    have I3 := inv_made (t' := tk) (q := X.env.qual ++ "<genexpr>") (more := #[rawInt gpos.line, rawInt gpos.col, .ref c']) I1 hP (fun b o hb e => hx b o hb e) htab'.2 hge hP' ne (PySem.W.CodeHd.of hcode' htab2) hrec htab2.2
    refine cont c' _ h3 tk (.inr ⟨gpos, P', hf, I1.hok.fresh hge, I1.hok.fresh hP', ne, rfl⟩) I3 (fun b o hb e => hx b o hb e) (Nat.le_trans hge (Nat.le_of_lt hlt)) fun b hb => ?_
    have hl := fpl b hb
    rw [upd_ne (fun e => by rw [e] at hl; exact Nat.lt_irrefl _ (Nat.lt_of_lt_of_le hl hP')), upd_ne (fun e => by rw [e] at hl; exact Nat.lt_irrefl _ (Nat.lt_of_lt_of_le hl hge)), upd_ne (fpP b hb)]
    exact (f1 b hb).1
  | some cv =>
    obtain ⟨c', rfl⟩ := hamong gpos cv hf
    refine wpAny_genexprCode_hit hcode (cd.code hPs htr) hf ?_
    exact cont c' H1 s2.heap s2.toks (.inl ⟨rfl, gpos, hf⟩) I1 (fun b o _ e => e) (Nat.le_refl _) fun b hb => (f1 b hb).1
theorem pe_any (d : Bool) {nm : Str} {elt tg iter : Expr} {ifs : List Expr} {scope : Scope} {own : List (Str × Nat)} {p pos gpos : Pos} {wi : TI} {g : TG} {tt : TT} {te : Addr → TE}
    (hr : Room 3 X.A) (hc : X.calm = true) (hg : Gl X nm) (hm : X.mg nm = none) (hb : bootBuiltins nm = some (.builtin (aName d))) (hn1 : nm ≠ "__name__") (hn2 : (nm == ("__debug__" : Str)) = false) (BM : ∃ P0, X.base.BuiltinsAt X.mg P0) (hN : X.N.Nodup) (hi : PI X tg iter wi) (ok : BlkOk X.N X.env.scope scope own) (nc : ∀ y ∈ scope.names, y.2 ≠ .cell) (hdot : scope.names.lookup (".0" : Str) = some NameKind.local) (hco : scope.isCoroutine = false)
    (hpg : ∀ (s : Shared) (H : Hp) (C : Addr) (cl : List (Str × Addr)) (c' : Addr) (fp : List Addr) (p : Addr × Obj), PG (gcx X s H (genEnv scope cl C (.ref c') builtinsNs X.env) fp p) tg g)
    (ht : ∀ (s : Shared) (H : Hp) (C : Addr) (cl : List (Str × Addr)) (c' : Addr) (fp : List Addr) (p : Addr × Obj), PTs (gcx X s H (genEnv scope cl C (.ref c') builtinsNs X.env) fp p) ifs tt)
    (he : ∀ (s : Shared) (H : Hp) (C : Addr) (cl : List (Str × Addr)) (c' : Addr) (fp : List Addr) (p : Addr × Obj), PE (gcx X s H (genEnv scope cl C (.ref c') builtinsNs X.env) fp p) elt (te c'))
    (hs : ∀ v, genFold iter X.env v = pure v := by intro _; rfl) (hst : starEach [.GeneratorExp elt [⟨tg, iter, ifs, 0⟩] scope gpos] X.env = (false, eval (.GeneratorExp elt [⟨tg, iter, ifs, 0⟩] scope gpos) X.env) :: starEach [] X.env := by rfl) :
    PE X (.Call (.Name nm p) [.GeneratorExp elt [⟨tg, iter, ifs, 0⟩] scope gpos] [] pos) (tAny X d (X.env.qual ++ "<genexpr>") wi g tt te (own.map (·.2))) := by
  refine ⟨fun pins s σ H Q I h => ?_⟩
  refine wpAny_Call_Name_kw (ld_blt I hg hm hb ?_ hn1 hn2)
  refine PyProof.Rows.callWith_builtin1 ?_ hst (by cases d <;> rfl)
  rw [hst]
  show wpAny _ _ (spliced ((false, eval (.GeneratorExp elt [⟨tg, iter, ifs, 0⟩] scope gpos) X.env) :: backTo pos (starEach [] X.env))) _ _ s
  refine Calls.spliced_cons (gen_any d hr hc BM hN hi ok nc hdot hco hpg ht he hs I h fun a s5 ⟨g, hgen⟩ hrun => ?_)
  refine Calls.spliced_nil ?_
  refine any_call d (wpAny_pyIter_gen hgen ⟨a, rfl, hrun _ fun b H' s' I' q => ?_⟩)
  exact ⟨.bl b, H', I', rfl, q⟩
end
end DL

namespace DL
open PySem PySem.Spec PyProof.Rows L2 GenW

/-! ### any, all over data -/
def anyD (d : Bool) (p : Pat) (τ : Dt) (ε : De) : List D → List Sl → List D → Res D
  | [], _, S => .ok (.bl (!d)) S
  | x :: xs, Γ, S => match p.bind x Γ with
    | none => .stuck
    | some Γ1 => (nox (τ Γ1 S)).bind fun k S1 => if k then (nox (ε Γ1 S1)).bind fun v S2 => match v with
        | .bl b => if b = d then .ok (.bl d) S2 else anyD d p τ ε xs Γ S2
        | _ => .stuck
      else anyD d p τ ε xs Γ S1
def eAny (d : Bool) (ι : Da) (p : Pat) (vs : List Nat) (τ : Dt) (ε : De) : De := fun Γ S => (ι Γ S).bind fun xs S1 => anyD d p τ ε xs (wipeD Γ vs) S1
/-- what is known of the settled heap, too -/
def tEk (Kn : Hp → Prop) (C : Cn) (W : WX) (RV : RVT D V) (δ : De) : TE := fun σ H Q => ∃ Γ S ρ G, Mem C Γ S ρ G H σ ∧ Kn G ∧ Post C W RV Γ ρ G H σ (δ Γ S) Q
def DEk (X : Cx) (cls : Nat → Addr) (W : WX) (Kn : Hp → Prop) (e : Expr) (δ : De) : Prop := PE X e (tEk Kn ⟨X.K, cls⟩ W (RS ⟨X.K, cls⟩) δ)
def KnN : Hp → Prop := fun _ => True
theorem dek_of {X : Cx} {cls : Nat → Addr} {W : WX} {Kn : Hp → Prop} {e : Expr} {δ : De} (h : DE X cls W e δ) : DEk X cls W Kn e δ := PE.weak h fun σ H Q ⟨Γ, S, ρ, G, m, _, p⟩ => ⟨Γ, S, ρ, G, m, p⟩
theorem de_ofk {X : Cx} {cls : Nat → Addr} {W : WX} {e : Expr} {δ : De} (h : DEk X cls W KnN e δ) : DE X cls W e δ := PE.weak h fun σ H Q ⟨Γ, S, ρ, G, m, p⟩ => ⟨Γ, S, ρ, G, m, True.intro, p⟩
section
variable {C : Cn} {Γ : List Sl} {S : List D} {ρ : List Addr} {G H : Hp} {σ : L2.St}
/-- the code object of the generator is known from now on -/
theorem mem_made {P c' : Addr} {ps : Array Value} {q : Str} {H2 : Hp} (m : Mem C Γ S ρ G H σ) (hroot : ∀ i, C.cls (i + 1000) = P → C.cls (i + 1000) ≠ 0 → tabName i = q) (hP : H P = some (.tbl ps)) (ht : TriplesOk ps.toList)
    (ha : ∀ (pos : Pos) (cv : Value), codeAmong pos ps.toList = some cv → ∃ c q P', cv = .ref c ∧ G c = some (CodeP c q P')) (made : MadeC P ps q H H2 c') :
    ∃ G2, Mem C Γ S ρ G2 H2 σ ∧ Nx ρ G H ρ G2 H2 ∧ KnC c' G2 := by
  rcases made with ⟨rfl, pos, hc⟩ | ⟨pos, P', hc, hc1, hc2, hne, rfl⟩
  · obtain ⟨c, q', P', e, h⟩ := ha pos _ hc
    cases e
    exact ⟨G, m, .refl, q', P', h⟩
  · have gc : G c' = none := m.sub.gone hc1
    have nPc : P ≠ c' := ne_of_none hP hc1
    have nPP : P ≠ P' := ne_of_none hP hc2
    have k : Sub G (upd G c' (CodeP c' q P')) := fun a u h => by rw [upd_ne (ne_of_none h gc)]; exact h
    obtain ⟨HZ, eZ⟩ : ∃ HZ, HZ = upd (upd (upd H P (.tbl (ps ++ #[rawInt pos.line, rawInt pos.col, .ref c']))) c' (CodeP c' q P')) P' (.tbl #[]) := ⟨_, rfl⟩
    rw [← eZ]
    have atP : HZ P = some (.tbl (ps ++ #[rawInt pos.line, rawInt pos.col, .ref c'])) := by rw [eZ, upd_ne nPP, upd_ne nPc, upd_same]
    have atC : HZ c' = some (CodeP c' q P') := by rw [eZ, upd_ne hne, upd_same]
    have atQ : HZ P' = some (.tbl #[]) := by rw [eZ, upd_same]
    have keep : ∀ a o, a ≠ P → H a = some o → HZ a = some o := fun a o h1 h => by
      rw [eZ, upd_ne (ne_of_none h hc2), upd_ne (ne_of_none h hc1), upd_ne h1]; exact h
    have keepN : ∀ a o, (∀ ps, o ≠ .tbl ps) → H a = some o → HZ a = some o := fun a o n h => keep a o (fun z => by rw [z, hP] at h; cases h; exact n _ rfl) h
    have eL : (ps ++ #[rawInt pos.line, rawInt pos.col, .ref c']).toList = ps.toList ++ [rawInt pos.line, rawInt pos.col, .ref c'] := by simp
    have atG : upd G c' (CodeP c' q P') c' = some (CodeP c' q P') := upd_same
    -- a table, grown or not
    have tabs : ∀ (T : Addr) (n : Option Str), TabC G H T n → (T = P → ∀ x, n = some x → x = q) → TabC (upd G c' (CodeP c' q P')) HZ T n := fun T n t hn => by
      by_cases hT : T = P
      · subst hT
        obtain ⟨ps2, h1, h2, h3⟩ := t
        rw [hP] at h1; cases h1
        refine ⟨_, atP, by rw [eL]; exact TriplesOk_snoc _ _ _ _ ht, fun p' cv hcv => ?_⟩
        rw [eL] at hcv
        rcases LamX.among_app _ ht hcv with z | z
        · obtain ⟨c, q', P2, e1, e2, e3⟩ := h3 p' cv z
          exact ⟨c, q', P2, e1, k _ _ e2, e3⟩
        · exact ⟨c', q, P', z, atG, fun x hx => (hn rfl x hx).symm⟩
      · exact (t.mono k).ext fun ps2 h => keep T _ hT h
    have mG : ∀ a o, upd G c' (CodeP c' q P') a = some o → (a = c' ∧ o = CodeP c' q P') ∨ G a = some o := fun a o h => by
      by_cases z : a = c'
      · subst z; rw [upd_same] at h; cases h; exact .inl ⟨rfl, rfl⟩
      · rw [upd_ne z] at h; exact .inr h
    refine ⟨upd G c' (CodeP c' q P'), ⟨⟨⟨fun a o h => ?_⟩, fun i z => tabs _ _ (m.sub.tab i z) fun e x hx => ?_, fun c hk => ?_, fun a ps2 h => ?_⟩, fun i d h => ?_, fun i d h => ?_, m.inj, fun i d h => ?_, fun a ha => ?_, m.len, m.nd, m.wid, fun i x h => ?_⟩, ⟨List.prefix_refl _, k, fun a o h => ?_, fun a o n h _ => keepN a o n h, fun a h => ?_, fun a h => .inl h⟩, q, P', atG⟩
    · rcases mG a o h with ⟨rfl, rfl⟩ | h
      · exact ⟨_, atC, .inl rfl⟩
      · obtain ⟨o', h1, h2⟩ := m.sub.at_ a o h
        refine ⟨o', keep a o' (fun z => ?_) h1, h2⟩
        rw [z] at h1
        rw [hP] at h1
        cases h1
        rcases h2 with h2 | ⟨_, _, _, h2⟩
        · exact m.sub.notb a ps (by rw [h, ← h2])
        · cases h2
    · cases hx; exact hroot i e z
    · by_cases z : c = c'
      · subst z
        refine ⟨q, P', atG, ⟨#[], atQ, True.intro, fun pos cv hc => by cases hc⟩, fun j z e => ?_⟩
        obtain ⟨ps3, h1, _⟩ := m.sub.tab j z
        rw [e, hc2] at h1; cases h1
      · obtain ⟨q2, P2, h⟩ := hk
        rw [upd_ne z] at h
        obtain ⟨q3, P3, h1, h2, h3⟩ := m.sub.codes c ⟨q2, P2, h⟩
        exact ⟨q3, P3, k _ _ h1, tabs _ _ h2 fun _ x hx => (by cases hx), h3⟩
    · rcases mG a _ h with ⟨e1, e2⟩ | h
      · unfold CodeP at e2; cases e2
      · exact m.sub.notb a ps2 h
    · obtain ⟨v, e, r⟩ := m.val i d h
      exact ⟨v, e, r.mono k (List.prefix_refl _)⟩
    · obtain ⟨a, e, r, g, n⟩ := m.own i d h
      obtain ⟨o, ho⟩ := r.some
      exact ⟨a, e, r.mono k (List.prefix_refl _) fun u hu => keepN a u (fun ps z => r.plain.1 ps (by rw [hu, z])) hu, by rw [upd_ne (ne_of_none ho hc1)]; exact g, n⟩
    · obtain ⟨a, e, r⟩ := m.sto i d h
      exact ⟨a, e, r.mono k (List.prefix_refl _) fun u hu => keepN a u (fun ps z => r.plain.1 ps (by rw [hu, z])) hu⟩
    · obtain ⟨i, hi⟩ := List.mem_iff_getElem?.mp ha
      have hl : i < S.length := by rw [← m.len]; exact (List.getElem?_eq_some_iff.mp hi).1
      obtain ⟨b, e, r⟩ := m.sto i S[i] (List.getElem?_eq_getElem hl)
      rw [hi] at e; cases e
      obtain ⟨o, ho⟩ := r.some
      rw [upd_ne (ne_of_none ho hc1)]
      exact m.stG a ha
    · exact ⟨(m.xcp i x h).1, (m.xcp i x h).2.mono k (List.prefix_refl _)⟩
    · rcases mG a o h with ⟨rfl, rfl⟩ | h
      · exact .inr hc1
      · exact .inl h
    · cases q2 : H a with
      | none => rfl
      | some o =>
        by_cases z : a = P
        · rw [z, atP] at h; cases h
        · rw [keep a o z q2] at h; cases h
end
end DL

namespace DL
open PySem PySem.Spec PyProof.Rows L2 GenW

theorem anyD_exc {d : Bool} {p : Pat} {τ : Dt} {ε : De} : ∀ (xs : List D) (Γ : List Sl) (S : List D) (e : Exn) (S' : List D), anyD d p τ ε xs Γ S ≠ .exc e S' := by
  intro xs
  induction xs with
  | nil => intro Γ S e S' h; cases h
  | cons x xs ih =>
    intro Γ S e S' h
    rw [anyD] at h
    cases a1 : p.bind x Γ with
    | none => rw [a1] at h; cases h
    | some Γ1 =>
      rw [a1] at h
      simp only at h
      cases a2 : τ Γ1 S with
      | exc _ _ => rw [a2] at h; cases h
      | stuck => rw [a2] at h; cases h
      | ok k S1 =>
        rw [a2] at h
        simp only [nox_ok, Res.bind_ok] at h
        cases k with
        | false => exact ih _ _ _ _ (by simpa using h)
        | true =>
          simp only [if_true] at h
          cases a3 : ε Γ1 S1 with
          | exc _ _ => rw [a3] at h; cases h
          | stuck => rw [a3] at h; cases h
          | ok v S2 =>
            rw [a3] at h
            simp only [nox_ok, Res.bind_ok] at h
            cases v with
            | bl b =>
              simp only at h
              split at h
              · cases h
              · exact ih _ _ _ _ h
            | _ => cases h
section
variable {X : Cx} {cls : Nat → Addr} {W : WX} {Kn : Hp → Prop}
/-- where the code object of the frame comes from -/
def Src (X : Cx) (cls : Nat → Addr) (Kn : Hp → Prop) (q : Str) : Prop := ∀ G H, SubH ⟨X.K, cls⟩ G H → Kn G → ∃ (c P : Addr) (nm : Option Str), CodeSrc X H c P ∧ TabC G H P nm ∧ ∀ i, cls (i + 1000) = P → cls (i + 1000) ≠ 0 → tabName i = q
theorem x_any (d : Bool) {q : Str} {ι : Da} {p : Pat} {τ : Dt} {ε : De} {vs : List Nat} (kmono : ∀ G G', Sub G G' → Kn G → Kn G') (hsrc : Src X cls Kn q) (hv : ∀ i ∈ p.vars, i ∈ vs) {σ : L2.St} {H : Hp} {Q : VK} (h : tEk Kn ⟨X.K, cls⟩ W (RS ⟨X.K, cls⟩) (eAny d ι p vs τ ε) σ H Q) :
    tAny X d q (tI ⟨X.K, cls⟩ W ι) (p.g X.K) (tT ⟨X.K, cls⟩ W0 τ) (fun c' => tEk (KnC c') ⟨X.K, cls⟩ W0 (RS ⟨X.K, cls⟩) ε) vs σ H Q := by
  obtain ⟨Γ, S, ρ, G, m, kn, qq⟩ := h
  refine ⟨Γ, S, ρ, G, m, ?_⟩
  unfold eAny at qq
  cases z : ι Γ S with
  | exc x S1 => rw [z] at qq; exact qq
  | stuck => rw [z] at qq; exact qq
  | ok xs S1 =>
    rw [z] at qq
    simp only [Res.bind_ok] at qq
    intro J ρ1 G1 H1 m1 n1 sk
    obtain ⟨c, P, nm, src, ⟨ps, hP, htr, ham⟩, hroot⟩ := hsrc G1 H1 m1.sub (kmono _ _ n1.ext kn)
    refine ⟨c, P, ps, src, hP, htr, fun pos cv hc => ?_, fun c' H2 made => ?_⟩
    · obtain ⟨c2, _, _, e, _⟩ := ham pos cv hc
      exact ⟨c2, e⟩
    obtain ⟨G2, m2, n2, k2⟩ := mem_made m1 hroot hP htr (fun pos cv hc => by
      obtain ⟨c2, q2, P2, e, e2, _⟩ := ham pos cv hc
      exact ⟨c2, q2, P2, e, e2⟩) made
    let Pv : Nat → Hp → Prop := fun i H => ∃ S ρ G, Mem ⟨X.K, cls⟩ Γ S ρ G H σ ∧ Nx ρ1 G1 H1 ρ G H ∧ KnC c' G ∧
      anyD d p τ ε xs (wipeD Γ vs) S1 = anyD d p τ ε (xs.drop i) (wipeD Γ vs) S
    refine ⟨fun i mm H => mm = xs.length - i ∧ i ≤ xs.length ∧ Pv i H, ⟨xs.length, by omega, Nat.zero_le _, S1, ρ1, G2, m2, n2, k2, by rw [List.drop_zero]⟩, fun i mm H ⟨hm, hi, S, ρ, G, ms, nn, kc, eqn⟩ => ?_⟩
    have sub1 : Sub G1 G := nn.ext
    by_cases hlt : i < xs.length
    · rw [List.drop_eq_getElem_cons hlt, anyD] at eqn
      refine .inr ⟨sk.go S ρ G H i ms.toS sub1 nn.pre (old_of m1 nn) hlt, Pv (i + 1), fun H' n => ⟨xs.length - (i + 1), by omega, rfl, hlt, n⟩, fun x H' y => ?_⟩
      obtain ⟨G', m', n', r'⟩ := sk.yld S ρ G H i x H' _ ms.toS sub1 nn.pre (old_of m1 nn) (List.getElem?_eq_getElem hlt) y
      have mH' := ms.step n' m'
      have mw := mH'.wipe vs
      cases hbd : p.bind xs[i] (wipeD Γ vs) with
      | none => rw [hbd] at eqn; rw [eqn] at qq; exact qq.elim
      | some Γ1 =>
        rw [hbd] at eqn
        simp only at eqn
        refine Pat.ok (C := ⟨X.K, cls⟩) p xs[i] x (wipeD Γ vs) Γ1 (L2.wipe σ vs) mw r' hbd _ fun σ2 mm2 _ kp => ⟨?_, Γ1, S, ρ, G', mm2, ?_⟩
        · rw [wipe_eq kp.1 fun j hj => kp.2 j fun h => hj (hv j h), wipe_eq (L2.wipe_length σ vs) fun j hj => wipe_out2 hj]
        · cases zt : τ Γ1 S with
          | exc x2 S2 => rw [zt] at eqn; rw [eqn] at qq; exact qq.elim
          | stuck => rw [zt] at eqn; rw [eqn] at qq; exact qq.elim
          | ok k S2 =>
            rw [zt] at eqn
            simp only [nox_ok, Res.bind_ok] at eqn
            intro kv ρ2 G3 H3 mm3 nn2 rk
            have ek : k = kv := rk
            subst ek
            have nnH : Nx ρ G H ρ2 G3 H3 := n'.trans nn2
            have mg2 : Mem ⟨X.K, cls⟩ Γ S2 ρ2 G3 H3 σ := ms.step nnH mm3.toS
            have kc2 : KnC c' G3 := by
              obtain ⟨q2, P2, e⟩ := kc
              exact ⟨q2, P2, nnH.ext _ _ e⟩
            cases k with
            | false =>
              simp only [Bool.false_eq_true, if_false] at eqn
              exact iteF ⟨S2, ρ2, G3, mg2, nn.trans nnH, kc2, eqn⟩
            | true =>
              simp only [if_true] at eqn
              refine iteT ⟨Γ1, S2, ρ2, G3, mm3, kc2, ?_⟩
              cases ze : ε Γ1 S2 with
              | exc x3 S3 => rw [ze] at eqn; rw [eqn] at qq; exact qq.elim
              | stuck => rw [ze] at eqn; rw [eqn] at qq; exact qq.elim
              | ok v S3 =>
                rw [ze] at eqn
                simp only [nox_ok, Res.bind_ok] at eqn
                intro dv ρ3 G4 H4 mm4 nn3 rd
                have nn4 : Nx ρ G H ρ3 G4 H4 := nnH.trans nn3
                have mg3 : Mem ⟨X.K, cls⟩ Γ S3 ρ3 G4 H4 σ := ms.step nn4 mm4.toS
                cases v with
                | bl b =>
                  refine ⟨b, rep_bl.mp rd, ?_⟩
                  simp only at eqn
                  by_cases hbd2 : b = d
                  · rw [if_pos hbd2] at eqn ⊢
                    rw [eqn] at qq
                    exact qq _ ρ3 G4 H4 mg3 (n1.trans (nn.trans nn4)) (rep_bl.mpr rfl)
                  · rw [if_neg hbd2] at eqn ⊢
                    obtain ⟨q2, P2, e⟩ := kc
                    exact ⟨S3, ρ3, G4, mg3, nn.trans nn4, ⟨q2, P2, nn4.ext _ _ e⟩, eqn⟩
                | _ => simp only at eqn; rw [eqn] at qq; exact qq.elim
    · have e : i = xs.length := by omega
      subst e
      refine .inl ⟨sk.stop S ρ G H ms.toS sub1 nn.pre (old_of m1 nn), ?_⟩
      rw [List.drop_length, anyD] at eqn
      rw [eqn] at qq
      exact qq _ ρ G H ms (n1.trans nn) (rep_bl.mpr rfl)
theorem dek_any (d : Bool) {nm : Str} {elt tg iter : Expr} {ifs : List Expr} {scope : Scope} {own : List (Str × Nat)} {p' pos gpos : Pos} {ι : Da} {p : Pat} {τ : Dt} {ε : De}
    (hr : Room 3 X.A) (hc : X.calm = true) (hg : Gl X nm) (hm : X.mg nm = none) (hb : bootBuiltins nm = some (.builtin (aName d))) (hn1 : nm ≠ "__name__") (hn2 : (nm == ("__debug__" : Str)) = false) (BM : ∃ P0, X.base.BuiltinsAt X.mg P0) (kmono : ∀ G G', Sub G G' → Kn G → Kn G') (hsrc : Src X cls Kn (X.env.qual ++ "<genexpr>"))
    (hN : X.N.Nodup) (hi : DI X cls W tg iter ι) (ok : BlkOk X.N X.env.scope scope own) (nc : ∀ y ∈ scope.names, y.2 ≠ .cell) (hdot : scope.names.lookup (".0" : Str) = some NameKind.local) (hco : scope.isCoroutine = false) (hv : ∀ i ∈ p.vars, i ∈ own.map (·.2))
    (hpg : ∀ (s : Shared) (H : Hp) (C : Addr) (cl : List (Str × Addr)) (c' : Addr) (fp : List Addr) (p0 : Addr × Obj), PG (gcx X s H (genEnv scope cl C (.ref c') builtinsNs X.env) fp p0) tg (p.g X.K))
    (ht : ∀ (s : Shared) (H : Hp) (C : Addr) (cl : List (Str × Addr)) (c' : Addr) (fp : List Addr) (p0 : Addr × Obj), DTs (gcx X s H (genEnv scope cl C (.ref c') builtinsNs X.env) fp p0) cls ifs τ)
    (he : ∀ (s : Shared) (H : Hp) (C : Addr) (cl : List (Str × Addr)) (c' : Addr) (fp : List Addr) (p0 : Addr × Obj), DEk (gcx X s H (genEnv scope cl C (.ref c') builtinsNs X.env) fp p0) cls W0 (KnC c') elt ε)
    (hs : ∀ v, genFold iter X.env v = pure v := by intro _; rfl) (hst : starEach [.GeneratorExp elt [⟨tg, iter, ifs, 0⟩] scope gpos] X.env = (false, eval (.GeneratorExp elt [⟨tg, iter, ifs, 0⟩] scope gpos) X.env) :: starEach [] X.env := by rfl) :
    DEk X cls W Kn (.Call (.Name nm p') [.GeneratorExp elt [⟨tg, iter, ifs, 0⟩] scope gpos] [] pos) (eAny d ι p (own.map (·.2)) τ ε) :=
  PE.weak (pe_any d (tt := tT ⟨X.K, cls⟩ W0 τ) (te := fun c' => tEk (KnC c') ⟨X.K, cls⟩ W0 (RS ⟨X.K, cls⟩) ε) hr hc hg hm hb hn1 hn2 BM hN hi ok nc hdot hco hpg ht he hs hst) fun σ H Q h => x_any d kmono hsrc hv h
/-- in a def: its code object's table is the one of number i -/
theorem src_root {c : Addr} {i : Nat} {q : Str} (hcode : X.env.code = .ref c) (cd : PySem.W.CodeHd X.base c (cls (i + 1000))) (h0 : cls (i + 1000) ≠ 0) (hq : tabName i = q) (hu : ∀ j, cls (j + 1000) = cls (i + 1000) → cls (j + 1000) ≠ 0 → j = i) : Src X cls KnN q := fun G H sb _ =>
  ⟨c, cls (i + 1000), some (tabName i), ⟨hcode, .inl cd⟩, sb.tab i h0, fun j e z => by rw [hu j e z]; exact hq⟩
/-- in a generator -/
theorem src_gen {c : Addr} {q : Str} (hcode : X.env.code = .ref c) : Src X cls (KnC c) q := fun G H sb k => by
  obtain ⟨q', P, h1, h2, h3⟩ := sb.codes c k
  exact ⟨c, P, none, ⟨hcode, .inr ⟨q', sb.toSubA.get h1 codeP_dk⟩⟩, h2, fun j e z => absurd e (h3 j z)⟩
theorem knN_mono : ∀ G G' : Hp, Sub G G' → KnN G → KnN G' := fun _ _ _ h => h
theorem knC_mono {c : Addr} : ∀ G G' : Hp, Sub G G' → KnC c G → KnC c G' := fun _ _ e ⟨q, P, h⟩ => ⟨q, P, e _ _ h⟩
end
end DL

namespace DL
open PySem PySem.Spec PyProof.Rows L2 GenW
theorem room_gcx {X : Cx} {s : Shared} {H : Hp} {env : Env} {fp : List Addr} {p : Addr × Obj} {k : Nat} (r : RoomG (k + 3) X.A) : RoomG k (gcx X s H env fp p).A := by
  refine ⟨⟨r.hd, ?_, ?_⟩, r.gd⟩
  · have := r.dp
    show X.A.depth + 1 + 3 * k + 5 < _
    omega
  · have := r.un
    show X.A.units + 1 + 1 + 3 + 16 * k + 200 < _
    omega
theorem room_in {X : Cx} {s : Shared} {H : Hp} {env : Env} {fp : List Addr} {p : Addr × Obj} {k : Nat} {cls : Nat → Addr} {W : WX} {Kn : Hp → Prop} {e : Expr} {δ : De} (r : RoomG (k + 3) X.A) (h : RoomG k (gcx X s H env fp p).A → DEk (gcx X s H env fp p) cls W Kn e δ) : DEk (gcx X s H env fp p) cls W Kn e δ := h (room_gcx r)
/-! ### the law's end, with tables of code objects -/
def hpTab (K : PySem.W.Frag) (a : Addr) (u : HO) (ts : List Addr) : Hp := fun b => if b ∈ ts then some (.tbl #[]) else hpOne K a u b
section
variable {P : Program} {w : World} {K : PySem.W.Frag} {mg mb : Str → Option Value} {cls : Nat → Addr} {k : Nat} {fa a : Addr} {fd : FuncData} {x : Str} {s : Shared} {vs : List Value} {ns : List Int} {cs : List (Addr × Addr)}
theorem law_endT (kin : K.In s.heap) (mN : s.heap.Ns mainGlobals mg) (bN : s.heap.Ns builtinsNs mb) (bb : ∀ y : Str, y ≠ "__name__" → mb y = bootBuiltins y) (nl : s.heap.NoLimit) (ng : s.gens = #[])
    (hT : ∀ p ∈ cs, s.heap.get? p.2 = some { cls := .none, data := .fields #[] }) (nT : ∀ p ∈ cs, K.lookup p.2 = none) (hC : ∀ p ∈ cs, PySem.W.CodeHd s.heap p.1 p.2)
    (hbm : ∃ (bm : Addr) (ob : Obj), mg "__builtins__" = some (.ref bm) ∧ bm ≠ builtinsNs ∧ s.heap.get? bm = some ob ∧ ob.cls = .type "module" ∧ ob.dict = some builtinsNs ∧ ob.data = .plain)
    (hcs : ∀ i, cls (i + 1000) ≠ 0 → cls (i + 1000) ∈ cs.map (·.2))
    (ao : s.heap.get? a = some (scrO vs)) (ii : IntsAre vs ns) (il : ns.length ≤ 63) (rm : RoomG k callerA)
    (F : ∀ base : Heap, K.In base → base.Ns mainGlobals mg → (∃ P0, base.BuiltinsAt mg P0) → FnG P w K mg base k fa fd [x] (spLawT K cls)) (bd : ∀ (s : Shared) (u : Value), BindsTo s fd ⟨[u], []⟩ [(x, u)]) :
    codeAny (model P w) callerA (.call (.ref fa) ⟨[.ref a], []⟩) (fun r t => r = .ok (.ret (.bool true)) ∧ OldK s.heap t.heap ∧ t.os = s.os ∧ AllBare t.gens) s := by
  have iv := vals_ints ii
  have sl : ns.length ≤ sizeLine := Nat.le_trans il (by decide)
  obtain ⟨ts, ets⟩ : ∃ ts, ts = cs.map (·.2) := ⟨_, rfl⟩
  rw [← ets] at hcs
  have isT : ∀ b ∈ ts, s.heap.get? b = some { cls := .none, data := .fields #[] } := fun b hb => by
    rw [ets] at hb
    obtain ⟨p, hp, e⟩ := List.mem_map.mp hb
    rw [← e]; exact hT p hp
  have aT : a ∉ ts := fun z => by
    have q := isT a z
    rw [ao] at q
    have z' : Data.seq vs.toArray _ = Data.fields #[] := congrArg Obj.data (Option.some.inj q)
    cases z'
  have kT : ∀ b ∈ ts, K.lookup b = none := fun b hb => by
    rw [ets] at hb
    obtain ⟨p, hp, e⟩ := List.mem_map.mp hb
    rw [← e]; exact nT p hp
  obtain ⟨H, eH⟩ : ∃ H, H = hpTab K a (.frz (scrO vs) (.lst (ns.map V.int))) ts := ⟨_, rfl⟩
  have H_T : ∀ b ∈ ts, H b = some (.tbl #[]) := fun b hb => by rw [eH]; exact if_pos hb
  have H_off : ∀ b, b ∉ ts → H b = hpOne K a (.frz (scrO vs) (.lst (ns.map V.int))) b := fun b hb => by rw [eH]; exact if_neg hb
  have low : ∀ (b : Addr) (o : Obj), s.heap.get? b = some o → (b = a → K.lookup a ≠ none) → b ∉ ts → (hidT s.heap H).get? b = some o := fun b o e n nt => hidT_get e (by rw [H_off b nt]; exact hpOne_off n)
  have notT : ∀ {b : Addr} {o : Obj}, s.heap.get? b = some o → o.data ≠ .fields #[] → b ∉ ts := fun {b o} e n z => by
    have q := isT b z
    rw [e] at q
    cases q
    exact n rfl
  have dic : ∀ {b : Addr} {o : Obj} {es : Array DictEntry} {n : Nat}, s.heap.get? b = some o → o.data = .dict es n → (hidT s.heap H).get? b = some o := fun {b o es n} e d => low b o e (fun q => by
    subst q
    rw [ao] at e; cases e
    exact (show False by have d2 : Data.seq vs.toArray _ = Data.dict es n := d; cases d2).elim) (notT e (by rw [d]; intro z; cases z))
  have nsD : ∀ {b : Addr} {m : Str → Option Value}, s.heap.Ns b m → (hidT s.heap H).Ns b m := fun {b m} ⟨o, es, n, e, d, r⟩ => ⟨o, es, n, dic e d, d, r⟩
  have kinD : K.In (hidT s.heap H) := fun b o e => low b o (kin b o e) (fun q => by subst q; rw [e]; exact nofun) fun z => by rw [kT b z] at e; cases e
  have md : L2.Mod K mg (hidT s.heap H) := ⟨kinD, nsD mN, ⟨mb, nsD bN, bb⟩, by obtain ⟨mc, u1, u2⟩ := nl; exact ⟨mc, nsD u1, u2⟩⟩
  have held : HOk P w H s.heap := fun b t e => by
    by_cases hb : b ∈ ts
    · rw [H_T b hb] at e; cases e
      exact isT b hb
    · rw [H_off b hb] at e
      obtain ⟨rfl, _, rfl⟩ := hpOne_some e
      exact ⟨ao, by rw [List.length_map]; exact sl, vs, _, iv, ao⟩
  have ev : Env0 P w K mg (hidT s.heap H) callerA [] s H := ⟨rfl, md, fun b o e => of_hidT e, Nat.le_of_eq (hidT_size _ _), trivial, fun b z => (List.not_mem_nil z).elim, held, .of_eq ng⟩
  have sq : SqL K H a (ns.map V.int) := by
    cases q : K.lookup a with
    | none => exact .inl (.inr ⟨scrO vs, by rw [H_off a aT]; exact if_pos ⟨rfl, q⟩⟩)
    | some o =>
      have e := kin a o q
      rw [ao] at e; cases e
      exact .inr ⟨_, vs.toArray, _, q, rfl, rfl, rfl, by rw [List.size_toArray, ii.length]; exact sl, by simpa using iv⟩
  have BM : ∃ P0, (hidT s.heap H).BuiltinsAt mg P0 := by
    obtain ⟨bm, ob, b1, b2, b3, b4, b5, b6⟩ := hbm
    have nG : bm ≠ mainGlobals := fun q => by
      obtain ⟨o, es, ep, e, hd, _⟩ := mN
      rw [q, e] at b3
      cases b3
      rw [hd] at b6
      cases b6
    refine ⟨bm + 1, bm, ob, b1, b2, nG, Nat.ne_of_lt (Nat.lt_succ_self _), low bm ob b3 (fun q => ?_) (notT b3 (by rw [b6]; intro z; cases z)), b4, b5, b6⟩
    subst q
    rw [ao] at b3; cases b3
    cases b6
  refine codeAny_mono ((F _ kinD (nsD mN) BM).goes callerA [] s H ⟨[.ref a], []⟩ [.ref a] [.ref a] (fun v _ => v = .bl true) (fun _ _ _ => False) rm ev (bd s (.ref a)) (.cons rfl .nil) ⟨a, ns, rfl, sq, il, fun i z => H_T _ (hcs i z), fun _ => rfl⟩) ?_
  intro r t h
  match r, h with
  | .error er, h => obtain ⟨_, _, _, _, _, _, _, _, _, _, _, _, z⟩ := h; exact z.elim
  | .ok .next, h => exact h.elim
  | .ok .brk, h => exact h.elim
  | .ok .cont, h => exact h.elim
  | .ok (.ret u), h =>
    obtain ⟨v, H2, os, bare, un, held2, rv, q⟩ := h
    have qv : v = .bl true := q
    subst qv
    obtain rfl : u = Value.bool true := rv
    have key : ∀ b o, b ∉ ts → s.heap.get? b = some o → t.heap.get? b = some o := fun b o nt e => by
      cases z : H b with
      | none => exact un.keep b o e z (fun c => List.not_mem_nil c) (fun c => List.not_mem_nil c)
      | some t2 =>
        have z2 := z
        rw [H_off b nt] at z2
        obtain ⟨rfl, _, rfl⟩ := hpOne_some z2
        rw [ao] at e; cases e
        exact (held2 b _ (un.frzs b _ _ z)).1
    have grown : ∀ b ∈ ts, ∃ more : Array Value, t.heap.get? b = some { cls := .none, data := .fields more } := fun b hb => by
      obtain ⟨more, z⟩ := un.tbls b #[] (H_T b hb)
      exact ⟨_, held2 b _ z⟩
    refine ⟨rfl, ⟨fun b o e => ?_, fun b o e => ?_⟩, os, bare⟩
    · by_cases hb : b ∈ ts
      · obtain ⟨more, hm⟩ := grown b hb
        have e2 := isT b hb
        rw [e] at e2; cases e2
        have hb2 := hb
        rw [ets] at hb2
        obtain ⟨p, hp, ep⟩ := List.mem_map.mp hb2
        refine .inr (.inl ⟨?_, rfl, #[], more, rfl, by rw [Array.empty_append]; exact hm⟩)
        rw [← ep]
        exact ((hC p hp).tab (hT p hp)).isCodeTable
      · exact .inl (key b o hb e)
    · by_cases hb : b ∈ ts
      · obtain ⟨more, hm⟩ := grown b hb
        exact ⟨_, hm⟩
      · exact ⟨o, key b o hb e⟩
theorem law_headT {l : PySem.W.OpenLaw} {q : Program} {loose : List Str} {XP : (Str → Option Value) → Heap → Prop} {YP : World → Heap → Prop} {d : DefRec} {K : Params → PySem.W.Frag}
    (hn : l.most = some 63) (hdf : d.params.defaults = []) (rm : RoomG k callerA) (hY : ∀ (w : World) (h : Heap), YP w h → (K w.params).In h)
    (F : ∀ (w : World) (mg : Str → Option Value) (fa : Addr) (h : Heap), YP w h → (K w.params).In h → h.Ns mainGlobals mg → mg d.name = some (.ref fa) →
      ∃ (fd : FuncData) (cls : Nat → Addr) (cs : List (Addr × Addr)), (∀ p ∈ cs, h.get? p.2 = some { cls := .none, data := .fields #[] }) ∧ (∀ p ∈ cs, (K w.params).lookup p.2 = none) ∧ (∀ p ∈ cs, PySem.W.CodeHd h p.1 p.2) ∧ (∀ i, cls (i + 1000) ≠ 0 → cls (i + 1000) ∈ cs.map (·.2)) ∧
        (∀ (s : Shared) (u : Value), BindsTo s fd ⟨[u], []⟩ [(x, u)]) ∧ ∀ base : Heap, (K w.params).In base → base.Ns mainGlobals mg → (∃ P0, base.BuiltinsAt mg P0) → FnG l.prog w (K w.params) mg base k fa fd [x] (spLawT (K w.params) cls)) :
    PySem.W.WalkO q loose XP YP l.row.toRowW d [] (fun f vs => PySem.call f vs) := by
  refine Att.attach_callB hn hdf fun w s0 s1 mg mb fa o pm cd doc a vs ns G Y ho hd hcd hmg hobj hints hlen hbits hg => ?_
  obtain ⟨fd, cls, cs, hT, nT, hC, hcs, bd, hF⟩ := F w mg fa _ Y (hY w _ Y) G.T.g hmg
  exact law_endT (hY w _ Y) G.T.g G.T.b G.T.builtins G.T.nolimit hg hT nT hC G.T.bmain hcs hobj hints hlen rm hF bd
/-- the head that tells the tables, too -/
def tabHook (K : Params → PySem.W.Frag) (as : List Addr) (e : ∀ P, as = (K P).map (·.1)) (ts : List Addr) (n : Nat) : PySem.W.Hook := PySem.W.kmHook K as e ts
end
end DL

namespace DL
open PySem PySem.Spec PyProof.Rows L2 GenW
/-! ### any, all over a list of the store, as it stands at each turn -/
def anyPD (d : Bool) (q : Nat) (p : Pat) (τ : Dt) (ε : De) : Nat → Nat → List Sl → List D → Res D
  | 0, _, _, _ => .stuck
  | f + 1, i, Γ, S => match S[q]? with
    | some (.lst xs) => match xs[i]? with
      | none => .ok (.bl (!d)) S
      | some x => match p.bind x Γ with
        | none => .stuck
        | some Γ1 => (nox (τ Γ1 S)).bind fun k S1 => if k then (nox (ε Γ1 S1)).bind fun v S2 => match v with
            | .bl b => if b = d then .ok (.bl d) S2 else anyPD d q p τ ε f (i + 1) Γ S2
            | _ => .stuck
          else anyPD d q p τ ε f (i + 1) Γ S1
    | _ => .stuck
def eAnyP (d : Bool) (k : Nat) (p : Pat) (vs : List Nat) (τ : Dt) (ε : De) : De := fun Γ S => match Γ[k]? with
  | some (.val (.ptr q)) => anyPD d q p τ ε fuel 0 (wipeD Γ vs) S
  | _ => .stuck
section
variable {X : Cx} {cls : Nat → Addr} {W : WX} {Kn : Hp → Prop}
theorem x_anyP (d : Bool) {qn : Str} {k : Nat} {p : Pat} {τ : Dt} {ε : De} {vs : List Nat} (hsrc : Src X cls Kn qn) (hv : ∀ i ∈ p.vars, i ∈ vs) {σ : L2.St} {H : Hp} {Q : VK} (h : tEk Kn ⟨X.K, cls⟩ W (RS ⟨X.K, cls⟩) (eAnyP d k p vs τ ε) σ H Q) :
    tAny X d qn (iList X.K (tVar k)) (p.g X.K) (tT ⟨X.K, cls⟩ W0 τ) (fun c' => tEk (KnC c') ⟨X.K, cls⟩ W0 (RS ⟨X.K, cls⟩) ε) vs σ H Q := by
  obtain ⟨Γ, S1, ρ1, G1, m1, kn, qq⟩ := h
  unfold eAnyP at qq
  split at qq
  rotate_left
  · exact qq.elim
  rename_i q hΓ
  obtain ⟨v, hσ, rv⟩ := m1.val k _ hΓ
  obtain ⟨a, ha, rfl⟩ := rep_ptr.mp rv
  have at_ : ∀ {S ρ G H} {xs : List D}, Mem ⟨X.K, cls⟩ Γ S ρ G H σ → ρ1 <+: ρ → S[q]? = some (.lst xs) → ∃ vs1, H a = some (.lst vs1) ∧ Reps ⟨X.K, cls⟩ ρ G xs vs1 := fun {S ρ G H xs} ms pr e => by
    obtain ⟨b, hb, v1, h1, r1⟩ := ms.sto q _ e
    obtain ⟨t, rfl⟩ := pr
    rw [List.getElem?_append_left (List.getElem?_eq_some_iff.mp ha).1, ha] at hb
    cases hb
    exact ⟨v1, h1, r1⟩
  obtain ⟨xs0, hS⟩ : ∃ xs, S1[q]? = some (.lst xs) := by
    rw [show fuel = 999999 + 1 from rfl, anyPD] at qq
    split at qq
    · rename_i xs e; exact ⟨xs, e⟩
    · exact qq.elim
  obtain ⟨vs0, h0, r0⟩ := at_ m1 (List.prefix_refl _) hS
  refine ⟨_, hσ, a, rfl, ⟨vs0, SqL.of h0⟩, ?_⟩
  obtain ⟨c, P, nm, src, ⟨ps, hP, htr, ham⟩, hroot⟩ := hsrc G1 H m1.sub kn
  refine ⟨c, P, ps, src, hP, htr, fun pos cv hc => ?_, fun c' H2 made => ?_⟩
  · obtain ⟨c2, _, _, e, _⟩ := ham pos cv hc
    exact ⟨c2, e⟩
  obtain ⟨G2, m2, n2, k2⟩ := mem_made m1 hroot hP htr (fun pos cv hc => by
    obtain ⟨c2, q2, P2, e, e2, _⟩ := ham pos cv hc
    exact ⟨c2, q2, P2, e, e2⟩) made
  refine ⟨fun i mm H' => ∃ S ρ G, Mem ⟨X.K, cls⟩ Γ S ρ G H' σ ∧ Nx ρ1 G1 H ρ G H' ∧ KnC c' G ∧ anyPD d q p τ ε fuel 0 (wipeD Γ vs) S1 = anyPD d q p τ ε mm i (wipeD Γ vs) S, ⟨fuel, S1, ρ1, G2, m2, n2, k2, rfl⟩, fun i mm H' ⟨S, ρ, G, ms, nn, kc, eqn⟩ => ?_⟩
  cases mm with
  | zero => rw [eqn] at qq; exact qq.elim
  | succ mm =>
    rw [anyPD] at eqn
    cases hSq : S[q]? with
    | none => rw [hSq] at eqn; rw [eqn] at qq; exact qq.elim
    | some dd =>
      rw [hSq] at eqn
      cases dd with
      | lst xs =>
        simp only at eqn
        obtain ⟨vs1, h1, r1⟩ := at_ ms nn.pre hSq
        cases hx : xs[i]? with
        | none =>
          rw [hx] at eqn; simp only at eqn
          rw [eqn] at qq
          have hl : xs.length ≤ i := List.getElem?_eq_none_iff.mp hx
          exact .inl ⟨⟨vs1, SqL.of h1, by rw [← r1.length]; exact hl⟩, qq _ ρ G H' ms nn (rep_bl.mpr rfl)⟩
        | some x =>
          rw [hx] at eqn; simp only at eqn
          obtain ⟨y, hy, ry⟩ := r1.get hx
          refine .inr ⟨⟨vs1, y, SqL.of h1, hy⟩, fun H3 => ∃ S ρ G, Mem ⟨X.K, cls⟩ Γ S ρ G H3 σ ∧ Nx ρ1 G1 H ρ G H3 ∧ KnC c' G ∧ anyPD d q p τ ε fuel 0 (wipeD Γ vs) S1 = anyPD d q p τ ε mm (i + 1) (wipeD Γ vs) S, fun H3 n => ⟨mm, by omega, n⟩, fun z H3 yy => ?_⟩
          obtain ⟨rfl, yy⟩ := yy
          have e9 := yy vs1 (SqL.of h1)
          rw [hy] at e9; cases e9
          cases hbd : p.bind x (wipeD Γ vs) with
          | none => rw [hbd] at eqn; rw [eqn] at qq; exact qq.elim
          | some Γ1 =>
            rw [hbd] at eqn
            simp only at eqn
            refine Pat.ok (C := ⟨X.K, cls⟩) p x y (wipeD Γ vs) Γ1 (L2.wipe σ vs) (ms.wipe vs) ry hbd _ fun σ2 mm2 _ kp => ⟨?_, Γ1, S, ρ, G, mm2, ?_⟩
            · rw [wipe_eq kp.1 fun j hj => kp.2 j fun h => hj (hv j h), wipe_eq (L2.wipe_length σ vs) fun j hj => wipe_out2 hj]
            · cases zt : τ Γ1 S with
              | exc x2 S2 => rw [zt] at eqn; rw [eqn] at qq; exact qq.elim
              | stuck => rw [zt] at eqn; rw [eqn] at qq; exact qq.elim
              | ok b S2 =>
                rw [zt] at eqn
                simp only [nox_ok, Res.bind_ok] at eqn
                intro kv ρ2 G3 H3 mm3 nn2 rk
                have ek : b = kv := rk
                subst ek
                have mg2 : Mem ⟨X.K, cls⟩ Γ S2 ρ2 G3 H3 σ := ms.step nn2 mm3.toS
                have kc2 : KnC c' G3 := by
                  obtain ⟨q2, P2, e⟩ := kc
                  exact ⟨q2, P2, nn2.ext _ _ e⟩
                cases b with
                | false =>
                  simp only [Bool.false_eq_true, if_false] at eqn
                  exact iteF ⟨S2, ρ2, G3, mg2, nn.trans nn2, kc2, eqn⟩
                | true =>
                  simp only [if_true] at eqn
                  refine iteT ⟨Γ1, S2, ρ2, G3, mm3, kc2, ?_⟩
                  cases ze : ε Γ1 S2 with
                  | exc x3 S3 => rw [ze] at eqn; rw [eqn] at qq; exact qq.elim
                  | stuck => rw [ze] at eqn; rw [eqn] at qq; exact qq.elim
                  | ok w S3 =>
                    rw [ze] at eqn
                    simp only [nox_ok, Res.bind_ok] at eqn
                    intro dv ρ3 G4 H4 mm4 nn3 rd
                    have nn4 := nn2.trans nn3
                    have mg3 : Mem ⟨X.K, cls⟩ Γ S3 ρ3 G4 H4 σ := ms.step nn4 mm4.toS
                    cases w with
                    | bl b =>
                      refine ⟨b, rep_bl.mp rd, ?_⟩
                      simp only at eqn
                      by_cases hbd2 : b = d
                      · rw [if_pos hbd2] at eqn ⊢
                        rw [eqn] at qq
                        exact qq _ ρ3 G4 H4 mg3 (nn.trans nn4) (rep_bl.mpr rfl)
                      · rw [if_neg hbd2] at eqn ⊢
                        obtain ⟨q2, P2, e⟩ := kc
                        exact ⟨S3, ρ3, G4, mg3, nn.trans nn4, ⟨q2, P2, nn4.ext _ _ e⟩, eqn⟩
                    | _ => simp only at eqn; rw [eqn] at qq; exact qq.elim
      | _ => simp only at eqn; rw [eqn] at qq; exact qq.elim
theorem dek_anyP (d : Bool) {nm : Str} {elt tg : Expr} {y : Str} {py : Pos} {ifs : List Expr} {scope : Scope} {own : List (Str × Nat)} {p' pos gpos : Pos} {p : Pat} {τ : Dt} {ε : De} (k : Nat)
    (hr : Room 3 X.A) (hc : X.calm = true) (hg : Gl X nm) (hm : X.mg nm = none) (hb : bootBuiltins nm = some (.builtin (aName d))) (hn1 : nm ≠ "__name__") (hn2 : (nm == ("__debug__" : Str)) = false) (BM : ∃ P0, X.base.BuiltinsAt X.mg P0) (hsrc : Src X cls Kn (X.env.qual ++ "<genexpr>"))
    (hN : X.N.Nodup) (hi : PE X (.Name y py) (tVar k)) (ok : BlkOk X.N X.env.scope scope own) (nc : ∀ y ∈ scope.names, y.2 ≠ .cell) (hdot : scope.names.lookup (".0" : Str) = some NameKind.local) (hco : scope.isCoroutine = false) (hv : ∀ i ∈ p.vars, i ∈ own.map (·.2))
    (hpg : ∀ (s : Shared) (H : Hp) (C : Addr) (cl : List (Str × Addr)) (c' : Addr) (fp : List Addr) (p0 : Addr × Obj), PG (gcx X s H (genEnv scope cl C (.ref c') builtinsNs X.env) fp p0) tg (p.g X.K))
    (ht : ∀ (s : Shared) (H : Hp) (C : Addr) (cl : List (Str × Addr)) (c' : Addr) (fp : List Addr) (p0 : Addr × Obj), DTs (gcx X s H (genEnv scope cl C (.ref c') builtinsNs X.env) fp p0) cls ifs τ)
    (he : ∀ (s : Shared) (H : Hp) (C : Addr) (cl : List (Str × Addr)) (c' : Addr) (fp : List Addr) (p0 : Addr × Obj), DEk (gcx X s H (genEnv scope cl C (.ref c') builtinsNs X.env) fp p0) cls W0 (KnC c') elt ε)
    (hs : ∀ v, genFold (.Name y py) X.env v = pure v := by intro _; rfl) (hst : starEach [.GeneratorExp elt [⟨tg, .Name y py, ifs, 0⟩] scope gpos] X.env = (false, eval (.GeneratorExp elt [⟨tg, .Name y py, ifs, 0⟩] scope gpos) X.env) :: starEach [] X.env := by rfl) :
    DEk X cls W Kn (.Call (.Name nm p') [.GeneratorExp elt [⟨tg, .Name y py, ifs, 0⟩] scope gpos] [] pos) (eAnyP d k p (own.map (·.2)) τ ε) :=
  PE.weak (pe_any d (tt := tT ⟨X.K, cls⟩ W0 τ) (te := fun c' => tEk (KnC c') ⟨X.K, cls⟩ W0 (RS ⟨X.K, cls⟩) ε) hr hc hg hm hb hn1 hn2 BM hN (pi_list hi) ok nc hdot hco hpg ht he hs hst) fun σ H Q h => x_anyP d hsrc hv h
end
end DL

namespace DL
open PySem PySem.Spec PyProof.Rows L2 GenW
/-! ### a lambda is made (one without captured names) -/
section
variable {X : Cx} {pins : List (Addr × Obj)} {σ : L2.St} {H : Hp} {s : Shared}
theorem lamO_ok {H1 : Hp} {h1 : Heap} {f c' : Addr} {F : LW} {od : Option Addr} {pm ctv : Value} {sl : Array (Option Value)} (h : h1.get? f = some (⟨.type "function", od, .func (PySem.W.kla_fn "<lambda>" F.qual F.params F.body F.scope [] pm (.ref c') ctv), sl⟩ : Obj)) :
    ObjOk X.prog X.w H1 h1 f (LamO f F c') :=
  ⟨⟨od, pm, ctv, sl, h⟩, ⟨_, h⟩, fun _ _ ⟨a, b, c, d, e⟩ st => ⟨a, b, c, d, st _ e⟩⟩
theorem lam_eval {params : Arguments} {body : Expr} {scope : Scope} {pos : Pos} {c P : Addr} {ps : Array Value} {Q E : Value → Shared → Prop}
    (I : Inv X pins σ H s) (BM : ∃ P0, X.base.BuiltinsAt X.mg P0) (hcode : X.env.code = .ref c) (src : PySem.W.CodeHd X.base c P ∨ ∃ q, H c = some (CodeP c q P)) (hP : H P = some (.tbl ps)) (htr : TriplesOk ps.toList)
    (ham : ∀ pos cv, codeAmong pos ps.toList = some cv → ∃ c', cv = .ref c') (hdef : defaultsOf params X.env = ([], [])) (hcl : closureFor scope X.env = pure [])
    (h : ∀ f c' H2 s', MadeC P ps (X.env.qual ++ "<lambda>") H H2 c' → H2 f = none → Inv X pins σ (upd H2 f (LamO f ⟨X.env.qual ++ "<lambda>", params, body, scope⟩ c')) s' → Q (.ref f) s') :
    wpAny (model X.prog X.w) X.A (eval (.Lambda params body scope pos) X.env) Q E s := by
  obtain ⟨P0, bm, ob, e1, e2, e3, e4, e5, e6, e7, e8⟩ := BM
  have tabP : s.heap.get? P = some { cls := .none, data := .fields ps } := I.hok P _ hP
  have hd : PySem.W.CodeHd s.heap c P := by
    rcases src with z | ⟨q', z⟩
    · exact z.keeps I.bk
    · exact (I.hok c _ z).1.1
  have fin : ∀ (c' : Addr) (H2 : Hp) (h3 : Heap) (tk : Nat), MadeC P ps (X.env.qual ++ "<lambda>") H H2 c' → Inv X pins σ H2 { s with heap := h3, toks := tk } →
      Q (.ref h3.objs.size) { s with heap := h3.push { cls := .type "function", data := .func (PySem.W.kla_fn "<lambda>" (X.env.qual ++ "<lambda>") params body scope [] ((X.mg "__name__").getD .none) (.ref c') .none) }, toks := tk } := fun c' H2 h3 tk made J =>
    h h3.objs.size c' H2 _ made (J.hok.fresh (Nat.le_refl _)) (J.laid (fun _ _ z => Heap.get?_push_of_some _ z) (Nat.le_refl _) (lamO_ok (Heap.get?_push_size _ rfl)))
  refine PySem.W.kla_eval hdef ?_
  rw [makeFunction_eq]
  simp only [List.zip_nil_right, List.filterMap_nil, List.isEmpty_nil, if_true, pure_bind]
  unfold makeTail
  rw [hcl, I.ok.glob]
  refine wpAny_bind (wpAny_pure ?_)
  simp only [List.isEmpty_nil, if_true]
  refine wpAny_bind (wpAny_pure ?_)
  cases hf : codeAmong pos ps.toList with
  | none =>
    refine wpAny_bind (wpAny_functionCodeX hcode (hd.code tabP htr) (hd.tab tabP) hf fun c' h3 tk kx ge lt co rc tb ⟨P', geP, co', tb'⟩ => ?_)
    have ne : c' ≠ P' := by
      obtain ⟨_, _, _, _, _, _, _, _, _, _, _, _, _, _, _, _, _, _, _, _, q⟩ := co'
      exact q
    have J := inv_made (t' := tk) (q := X.env.qual ++ "<lambda>") (more := #[rawInt pos.line, rawInt pos.col, .ref c']) I hP (fun b o hb e => kx b o hb e) tb.2 ge geP ne (PySem.W.CodeHd.of co' tb') rc tb'.2
    have gl := J.mod.glob.keeps J.bk
    refine wpAny_bind (wpAny_builtinsFor gl e1 e2 (J.bk _ _ e5) e6 e7 e8 ?_)
    refine wpAny_bind (wpAny_nsGet gl ?_)
    exact wpAny_bind (wpAny_pure (wpAny_newObj_type (fin c' _ h3 tk (.inr ⟨pos, P', hf, I.hok.fresh ge, I.hok.fresh geP, ne, rfl⟩) J) (by size_fits)))
  | some cv =>
    obtain ⟨c', rfl⟩ := ham pos cv hf
    refine wpAny_bind (wpAny_functionCode_hit hcode (hd.code tabP htr) hf ?_)
    have gl := I.mod.glob.keeps I.bk
    refine wpAny_bind (wpAny_builtinsFor gl e1 e2 (I.bk _ _ e5) e6 e7 e8 ?_)
    refine wpAny_bind (wpAny_nsGet gl ?_)
    exact wpAny_bind (wpAny_pure (wpAny_newObj_type (fin c' H s.heap s.toks (.inl ⟨rfl, pos, hf⟩) I) (by size_fits)))
end
/-- the lambda's reading: what it is, at its new place -/
def tLamE (X : Cx) (q : Str) (F : LW) : TE := fun σ H Q => ∃ (c P : Addr) (ps : Array Value), CodeSrc X H c P ∧ H P = some (.tbl ps) ∧ TriplesOk ps.toList ∧ (∀ pos cv, codeAmong pos ps.toList = some cv → ∃ c', cv = .ref c') ∧
  ∀ c' H2 f, MadeC P ps q H H2 c' → H2 f = none → Q (.ref f) (upd H2 f (LamO f F c'))
theorem pe_lam {X : Cx} {params : Arguments} {body : Expr} {scope : Scope} {pos : Pos} (BM : ∃ P0, X.base.BuiltinsAt X.mg P0) (hdef : defaultsOf params X.env = ([], [])) (hcl : closureFor scope X.env = pure []) :
    PE X (.Lambda params body scope pos) (tLamE X (X.env.qual ++ "<lambda>") ⟨X.env.qual ++ "<lambda>", params, body, scope⟩) := ⟨fun pins s σ H Q I h => by
  obtain ⟨c, P, ps, ⟨hcode, src⟩, hP, htr, ham, h⟩ := h
  exact lam_eval I BM hcode src hP htr ham hdef hcl fun f c' H2 s' made hn J => ⟨.ref f, _, J, rfl, h c' H2 f made hn⟩⟩
/-! ### the lambda as data -/
theorem lam_code {F : LW} {f c' q' P'} {q : Str} {P : Addr} {c : Addr} (h : LamO f F c' = CodeP c q' P') (hc : c = f) : False := by
  subst hc
  unfold LamO CodeP at h
  injection h with h
  let o : Obj := ⟨.type "function", none, .func (PySem.W.kla_fn "<lambda>" F.qual F.params F.body F.scope [] .none (.ref c') .none), #[]⟩
  let hp : Heap := { objs := Array.replicate (c + 1) o }
  have hg : hp.get? c = some o := by
    show (match (Array.replicate (c + 1) o)[c]? with | some ⟨_, _, .freed, _⟩ => none | o => o) = _
    rw [Array.getElem?_replicate, if_pos (Nat.lt_succ_self c)]
  have z := congrFun h hp
  have t : (∃ (od : Option Addr) (pm ctv : Value) (sl : Array (Option Value)), hp.get? c = some (⟨.type "function", od, .func (PySem.W.kla_fn "<lambda>" F.qual F.params F.body F.scope [] pm (.ref c') ctv), sl⟩ : Obj)) := ⟨none, .none, .none, #[], hg⟩
  rw [z] at t
  obtain ⟨_, c2, oc, vs, tt, e0, e1, e2, _⟩ := t
  cases e0
  rw [hg] at e1
  cases e1
  cases e2
section
variable {C : Cn} {Γ : List Sl} {S : List D} {ρ : List Addr} {G H : Hp} {σ : L2.St}
theorem SubH.putL {p : Addr} {o : HO} (e : SubH C G H) (ho : H p = some o) (hx : (∀ ps, o ≠ .tbl ps) ∧ ∀ q P, o ≠ CodeP p q P) : SubH C (L2.upd G p o) H := ⟨e.toSubA.put ho, fun i z => (e.tab i z).put e.toSubA ho, fun c ⟨q, P, h⟩ => by
  by_cases y : c = p
  · subst y; rw [upd_same] at h; exact absurd (Option.some.inj h) (hx.2 _ _)
  · rw [upd_ne y] at h
    obtain ⟨q2, P2, h1, h2, h3⟩ := e.codes c ⟨q, P, h⟩
    exact ⟨q2, P2, by rw [upd_ne y]; exact h1, h2.put e.toSubA ho, h3⟩, fun a ps h => by
  by_cases y : a = p
  · subst y; rw [upd_same] at h; exact hx.1 ps (Option.some.inj h)
  · rw [upd_ne y] at h; exact e.notb a ps h⟩
theorem Mem.settleL {p : Addr} {o : HO} {ρ0 : List Addr} {G0 H0 : Hp} {S' : List D} (m0 : Mem C Γ S ρ0 G0 H0 σ) (n : Nx ρ0 G0 H0 ρ G H) (m : Mem C Γ S' ρ G H σ) (h0 : H0 p = none) (hg : G p = none) (hp : p ∉ ρ) (ho : H p = some o) (hx : (∀ ps, o ≠ .tbl ps) ∧ ∀ q P, o ≠ CodeP p q P) :
    Mem C Γ S' ρ (upd G p o) H σ ∧ Nx ρ0 G0 H0 ρ (upd G p o) H ∧ Sub G (upd G p o) := by
  have k : Sub G (upd G p o) := fun a u h => by rw [upd_ne (ne_of_none h hg)]; exact h
  refine ⟨⟨m.sub.putL ho hx, fun i d h => ?_, fun i d h => ?_, m.inj, fun i d h => ?_, fun a h => ?_, m.len, m.nd, m.wid, fun i x h => ⟨(m.xcp i x h).1, (m.xcp i x h).2.mono k (List.prefix_refl _)⟩⟩, ⟨n.pre, n.ext.trans k, fun a u h => ?_, n.keep, n.live, n.fre⟩, k⟩
  · obtain ⟨v, e, r⟩ := m.val i d h
    exact ⟨v, e, r.mono k (List.prefix_refl _)⟩
  · obtain ⟨a, e, r, g, q⟩ := m.own i d h
    obtain ⟨a0, e0, r0, _, _⟩ := m0.own i d h
    rw [e] at e0; cases e0
    obtain ⟨u, hu⟩ := r0.some
    have ne : a ≠ p := fun z => by rw [z, h0] at hu; cases hu
    exact ⟨a, e, r.mono k (List.prefix_refl _) fun _ h => h, by rw [upd_ne ne]; exact g, q⟩
  · obtain ⟨a, e, r⟩ := m.sto i d h
    exact ⟨a, e, r.mono k (List.prefix_refl _) fun _ h => h⟩
  · rw [upd_ne (fun z => hp (by rw [← z]; exact h))]; exact m.stG a h
  · by_cases e : a = p
    · subst e; exact .inr h0
    · rw [upd_ne e] at h; exact n.new a u h
end
/-- a lambda -/
def eLam (k : Nat) (F : LW) : De := fun _ S => .ok (.fn k F) S
theorem made_at {P c' : Addr} {ps : Array Value} {q : Str} {H H2 : Hp} (hP : H P = some (.tbl ps)) (ht : TriplesOk ps.toList) (made : MadeC P ps q H H2 c') : ∃ ps2 pos, H2 P = some (.tbl ps2) ∧ codeAmong pos ps2.toList = some (.ref c') := by
  rcases made with ⟨rfl, pos, hc⟩ | ⟨pos, P', hc, hc1, hc2, hne, rfl⟩
  · exact ⟨ps, pos, hP, hc⟩
  · have eL : (ps ++ #[rawInt pos.line, rawInt pos.col, Value.ref c']).toList = ps.toList ++ [rawInt pos.line, rawInt pos.col, .ref c'] := by simp
    refine ⟨_, pos, by rw [upd_ne (ne_of_none hP hc2), upd_ne (ne_of_none hP hc1), upd_same], ?_⟩
    rw [eL, codeAmong_snoc _ ht hc]
section
variable {X : Cx} {cls : Nat → Addr} {W : WX}
theorem x_lam {F : LW} {k i : Nat} {c : Addr} (hcode : X.env.code = .ref c) (cd : PySem.W.CodeHd X.base c (cls (i + 1000))) (h0 : cls (i + 1000) ≠ 0) (hq : tabName i = F.qual) (hu : ∀ j, cls (j + 1000) = cls (i + 1000) → cls (j + 1000) ≠ 0 → j = i)
    {σ : L2.St} {H : Hp} {Q : VK} (h : tE ⟨X.K, cls⟩ W (RS ⟨X.K, cls⟩) (eLam k F) σ H Q) : tLamE X F.qual F σ H Q := by
  obtain ⟨Γ, S, ρ, G, m, p⟩ := h
  obtain ⟨ps, hP, htr, ham⟩ := m.sub.tab i h0
  refine ⟨c, cls (i + 1000), ps, ⟨hcode, .inl cd⟩, hP, htr, fun pos cv hc => ?_, fun c' H2 f made hn => ?_⟩
  · obtain ⟨c1, _, _, e, _⟩ := ham pos cv hc
    exact ⟨c1, e⟩
  · obtain ⟨G2, m2, n2, _⟩ := mem_made m (fun j e z => by rw [hu j e z]; exact hq) hP htr (fun pos cv hc => by
      obtain ⟨c1, q1, P1, e, g, _⟩ := ham pos cv hc
      exact ⟨c1, q1, P1, e, g⟩) made
    obtain ⟨ps2, pos2, hP2, hc2⟩ := made_at hP htr made
    obtain ⟨ps3, hP3, _, ham3⟩ := m2.sub.tab i h0
    have e3 : ps3 = ps2 := by
      have := hP3.symm.trans hP2
      cases this; rfl
    subst e3
    obtain ⟨c1, q1, P1, e, g, nm⟩ := ham3 pos2 _ hc2
    cases e
    have eq : q1 = F.qual := (nm _ rfl).trans hq
    subst eq
    obtain ⟨m3, n3, np, gp⟩ := m2.new (o := LamO f F c') hn
    obtain ⟨m4, n4, k4⟩ := Mem.settleL m2 n3 m3 hn gp np upd_same ⟨fun _ z => (by unfold LamO at z; cases z), fun q P z => lam_code (q := q) (P := P) z rfl⟩
    refine p.here m4 (n2.trans n4) ?_
    show Rep _ _ _ _ _
    rw [Rep]
    exact ⟨f, c', P1, rfl, upd_same, k4 _ _ g⟩
theorem de_lam {params : Arguments} {body : Expr} {scope : Scope} {pos : Pos} {F : LW} {k : Nat} (i : Nat) {c : Addr} (BM : ∃ P0, X.base.BuiltinsAt X.mg P0) (hdef : defaultsOf params X.env = ([], [])) (hcl : closureFor scope X.env = pure [])
    (hcode : X.env.code = .ref c) (cd : PySem.W.CodeHd X.base c (cls (i + 1000))) (h0 : cls (i + 1000) ≠ 0) (hq : tabName i = F.qual) (hu : ∀ j, cls (j + 1000) = cls (i + 1000) → cls (j + 1000) ≠ 0 → j = i) (hF : F = ⟨X.env.qual ++ "<lambda>", params, body, scope⟩) :
    DE X cls W (.Lambda params body scope pos) (eLam k F) := PE.weak (pe_lam BM hdef hcl) fun σ H Q h => by
  have := x_lam hcode cd h0 hq hu h
  rw [hF] at this
  exact this
end
end DL

namespace DL
open PySem PySem.Spec PyProof.Rows L2 GenW
/-! ### a lambda is called -/
structure LmG (P : Program) (w : World) (K : PySem.W.Frag) (mg : Str → Option Value) (base : Heap) (k : Nat) (F : LW) (ps : List Str) (sp : Sp) : Prop where
  lng : ∀ vs H Q E, sp vs H Q E → vs.length = ps.length
  goes : ∀ (A : Around) (o : List Env) (s : Shared) (H : Hp) (f c P' : Addr) (us : List Value) (vs : List V) (Q : VK) (E : XK), RoomG k A → Env0 P w K mg base A o s H → H f = some (LamO f F c) → H c = some (CodeP c F.qual P') → Vals vs us → sp vs H Q E →
    codeAny (model P w) A (.call (.ref f) ⟨us, []⟩) (CR (L2.CX P w) o P w H s Q E) s
def lamRun (n : Nat) (δ : De) (ds : List D) (S : List D) : Res D := δ (ds.map Sl.val ++ List.replicate (n - ds.length) Sl.non) S
section
variable {P : Program} {w : World} {K : PySem.W.Frag} {mg : Str → Option Value} {base : Heap} {cls : Nat → Addr}
theorem lmG_stuck {k : Nat} {F : LW} {ps : List Str} {C : Cn} {L : List D → List D → Res D} (h : ∀ ds S, L ds S = .stuck) : LmG P w K mg base k F ps (spD C ps.length L) := by
  have no : ∀ vs H Q E, ¬ spD C ps.length L vs H Q E := fun vs H Q E h' => by
    obtain ⟨S, ρ, G, ds, _, _, _, z⟩ := h'
    rw [h] at z; exact z
  exact ⟨fun vs H Q E h => absurd h (no vs H Q E), fun A o s H f c P' us vs Q E _ _ _ _ _ h => absurd h (no vs H Q E)⟩
theorem lam_ok {F : LW} {N ps : List Str} {k : Nat} {δ : De} (Sc : FnScope N ps F.scope) (hb : ∀ (q : Str) (pm cv ctv : Value) (us : List Value), us.length = ps.length → bindArgs (PySem.W.kla_fn "<lambda>" q F.params F.body F.scope [] pm cv ctv) ⟨us, []⟩ = pure (ps.zip us))
    (hbody : ∀ (f c : Addr) (A : Around) (outer : List Env) (s : Shared) (H : Hp) (E : XK), RoomG k (A.deeper (envOfC F.qual F.scope s.heap.objs.size f (.ref c))) →
      DE (cxOf (L2.CX P w) P w K mg base N F.qual F.scope f (.ref c) A outer s H E) cls (fun c d _ H => E c d H) F.body δ) : LmG P w K mg base (k + 1) F ps (spD ⟨K, cls⟩ ps.length (lamRun N.length δ)) := by
  have ln : ∀ vs H Q E, spD ⟨K, cls⟩ ps.length (lamRun N.length δ) vs H Q E → vs.length = ps.length := fun vs H Q E h => by obtain ⟨_, _, _, _, _, _, h, _⟩ := h; exact h
  refine ⟨ln, fun A o s H f c P' us vs Q E rm e0 hf hc rv h => ?_⟩
  obtain ⟨⟨od, pm, ctv, sl, ho⟩, _, _⟩ := e0.hok f _ hf
  obtain ⟨⟨_, rc⟩, _, _⟩ := e0.hok c _ hc
  have hl := ln _ _ _ _ h
  have lim : s.heap.NoLimit := e0.mod.nolimit.keeps fun b o e => (e0.bs b o e).1
  have hkind : ∀ y ∈ ps.zip us, F.scope.names.lookup y.1 = some .local ∨ (F.scope.names.lookup y.1 = some .cell ∧ ((cellsFrom (s.heap.objs.size + 1) F.scope.names []).lookup y.1).isSome = true) := fun ⟨n, v⟩ hy => by
    rcases Sc.par n (List.of_mem_zip hy).1 with q | q
    · exact .inl q
    · exact .inr ⟨q, PySem.W.cellsFrom_some _ _ _ (.inl q)⟩
  refine PySem.W.kla_callFunE rm.toRoom.depth ho rfl Sc.co Sc.gen rfl rc ?_
  rw [hb _ _ _ _ us (by rw [← rv.length]; exact hl)]
  refine wpAny_pure (wpAny_newFunctionEnv_cells Sc.kind hkind fun env he s1 x => ?_)
  subst he
  refine ⟨lim.keeps x.toInCall.keep, ?_⟩
  have I : Inv (cxOf (L2.CX P w) P w K mg base N F.qual F.scope f (.ref c) A o s H E) [] (L2.start N vs) H s1 := inv_start Sc rm.hd e0 hl rv x
  have q : tE ⟨K, cls⟩ (fun c d _ H => E c d H) (RS ⟨K, cls⟩) δ (L2.start N vs) H Q := by
    obtain ⟨S, ρ, G, ds, m, r, hl2, h⟩ := h
    refine ⟨_, S, ρ, G, start_mem m r, ?_⟩
    unfold lamRun at h
    cases z : δ (ds.map Sl.val ++ List.replicate (N.length - ds.length) Sl.non) S with
    | ok d S' => rw [z] at h; exact fun v ρ' G' H' m' n' r' => h v ρ' G' H' m'.toS n' r'
    | exc e S' => rw [z] at h; exact fun c dx ρ' G' H' m' n' r' => h c dx ρ' G' H' m'.toS n' r'
    | stuck => rw [z] at h; exact h
  refine PySem.W.kla_codeExpr (wpAny_mono ((hbody f c A o s H E (rm.deep _)).run [] s1 (L2.start N vs) H Q I q) (fun u s' hs => ?_) fun e s' hs => hs)
  obtain ⟨v, H', J, rv', q'⟩ := hs
  exact ⟨v, H', J.os, J.bare, J.base, J.hok, rv', q'⟩
end
open Classical in
/-- the lambda in slot i is called; T: the law's lambdas -/
noncomputable def eCallL (T : Nat → LW) (L : Nat → List D → List D → Res D) (i : Nat) (α : Da) : De := fun Γ S => match Γ[i]? with
  | some (.val (.fn k F)) => if F = T k then (α Γ S).bind fun ds S1 => L k ds S1 else .stuck
  | _ => .stuck
theorem x_eCallL {T : Nat → LW} {L : Nat → List D → List D → Res D} {i k : Nat} {α : Da} {Γ : List Sl} {S : List D} (h : Γ[i]? = some (.val (.fn k (T k)))) : eCallL T L i α Γ S = (α Γ S).bind fun ds S1 => L k ds S1 := by
  unfold eCallL
  rw [h]
  exact if_pos rfl
section
variable {X : Cx} {cls : Nat → Addr} {W : WX} {k i : Nat} {ps : List Str} {x : Str} {p pos : Pos} {e : Expr} {es : List Expr} {α : Da} {T : Nat → LW} {L : Nat → List D → List D → Res D}
theorem de_callL (hL : ∀ j, LmG X.prog X.w X.K X.mg X.base k (T j) ps (spD ⟨X.K, cls⟩ ps.length (L j))) (tk : Takes X W) (rm : RoomG k X.A) (hN : X.N[i]? = some x) (hv : Vis X.env.scope x)
    (ha : DA X cls W (e :: es) α) (hal : ALen α ps.length) (hd : (x == ("__debug__" : Str)) = false := by decide) (hcd : (x == ("__classdict__" : Str)) = false := by decide) (he : starEach (e :: es) X.env = (false, eval e X.env) :: starEach es X.env := by rfl) (pl : (backTo pos (starEach es X.env)).any (·.1) = false := by rfl) :
    DE X cls W (.Call (.Name x p) (e :: es) [] pos) (eCallL T L i α) := ⟨fun pins s σ H Q I h => by
  obtain ⟨Γ, S, ρ, G, m, q⟩ := h
  unfold eCallL at q
  split at q
  rotate_left
  · exact q.elim
  rename_i j F hΓ
  split at q
  rotate_left
  · exact q.elim
  rename_i hF
  subst hF
  obtain ⟨v, hσ, rv⟩ := m.val i _ hΓ
  rw [Rep] at rv
  obtain ⟨f, c, P', rfl, gf, gc⟩ := rv
  have hf : H f = some (LamO f (T j) c) := m.sub.toSubA.get gf (fun _ z => by unfold LamO at z; cases z)
  refine wpAny_Call_Name_kw (thn ((pe_var (pos := p) hN hv hd hcd).run pins s σ H (fun v H1 => v = .ref f ∧ H1 = H) I ⟨.ref f, hσ, rfl, rfl⟩) fun u s1 ⟨v1, H1, I1, r1, q1⟩ => ?_)
  obtain ⟨rfl, rfl⟩ := q1
  obtain rfl : u = Value.ref f := r1
  obtain ⟨⟨od, pm, ctv, sl, ho⟩, _, _⟩ := I1.hok f _ hf
  have exa : tE ⟨X.K, cls⟩ W (RS ⟨X.K, cls⟩) (eCall (L j) α) σ H1 Q := ⟨Γ, S, ρ, G, m, q⟩
  have keepF : tA ⟨X.K, cls⟩ W α σ H1 fun vs H2 => H2 f = some (LamO f (T j) c) ∧ H2 c = some (CodeP c (T j).qual P') ∧ spD ⟨X.K, cls⟩ ps.length (L j) vs H2 Q (fun c d H3 => W c d σ H3) := by
    refine ⟨Γ, S, ρ, G, m, ?_⟩
    cases z : α Γ S with
    | ok ds S1 =>
      rw [z] at q
      intro vs ρ1 G1 H2 m1 n1 r2
      refine ⟨m1.sub.toSubA.get (n1.ext _ _ gf) (fun _ z => by unfold LamO at z; cases z), m1.sub.toSubA.get (n1.ext _ _ gc) codeP_dk, S1, ρ1, G1, ds, m1.toS, r2, by rw [← r2.length]; exact hal.le _ _ _ _ z, ?_⟩
      simp only [Res.bind_ok] at q
      cases y : L j ds S1 with
      | ok d S2 => rw [y] at q; exact fun v ρ2 G2 H2 m2 n2 r2 => q v ρ2 G2 H2 (m1.step n2 m2) (n1.trans n2) r2
      | exc x S2 => rw [y] at q; exact fun c dx ρ2 G2 H2 m2 n2 r2 => q c dx ρ2 G2 H2 (m1.step n2 m2) (n1.trans n2) r2
      | stuck => rw [y] at q; exact q
    | exc x S1 => rw [z] at q; exact q
    | stuck => rw [z] at q; exact q
  refine PySem.W.callWith_F ⟨_, _, _, _, ho⟩ (thn (ha.run pos pins s1 σ H1 _ I1 keepF) fun us s2 ⟨vs, H2, I2, rv, gf2, gc2, q2⟩ => ⟨?_, ?_⟩) he pl
  · obtain ⟨⟨od2, pm2, ctv2, sl2, ho2⟩, _, _⟩ := I2.hok f _ gf2
    exact ⟨_, _, _, _, ho2⟩
  · refine wpAny_call (codeAny_mono ((hL j).goes X.A X.stack s2 H2 f c P' us vs Q (fun c d H3 => W c d σ H3) rm I2.env0 gf2 gc2 rv q2) ?_)
    rintro (er | ⟨u⟩ | _ | _ | _) s3 hq
    all_goals first | exact passAt tk σ pins H2 s2 er s3 I2 hq | exact I2.after hq | exact hq.elim⟩
end
/-! ### written tuples, one in another -/
mutual
def TupK (K : PySem.W.Frag) : D → Value → Prop
  | .bl b, v => v = .bool b
  | .int i, v => ∃ t, v = .int i t
  | .str x, v => ∃ t, v = .str x t
  | .tup ds, v => ∃ (a : Addr) (us : List Value) (n : Nat) (sl : Array (Option Value)), v = .ref a ∧ K.lookup a = some ⟨.type "tuple", none, .seq us.toArray n, sl⟩ ∧ us.length ≤ sizeLine ∧ TupKs K ds us
  | _, _ => False
def TupKs (K : PySem.W.Frag) : List D → List Value → Prop
  | [], us => us = []
  | d :: ds, us => ∃ u r, us = u :: r ∧ TupK K d u ∧ TupKs K ds r
end
mutual
theorem tupK_rep {C : Cn} : ∀ (d : D) (v : Value), TupK C.K d v → ∃ x, RelV x v ∧ ∀ ρ G, Rep C ρ G d x
  | .bl b, v, h => by
    rw [TupK] at h
    subst h
    exact ⟨.bl b, rfl, fun _ _ => rep_bl.mpr rfl⟩
  | .int i, v, h => by
    rw [TupK] at h
    obtain ⟨t, rfl⟩ := h
    exact ⟨.int i, ⟨t, rfl⟩, fun _ _ => rep_int.mpr rfl⟩
  | .str x, v, h => by
    rw [TupK] at h
    obtain ⟨t, rfl⟩ := h
    exact ⟨.str x, ⟨t, rfl⟩, fun _ _ => rep_str.mpr rfl⟩
  | .tup ds, v, h => by
    rw [TupK] at h
    obtain ⟨a, us, n, sl, rfl, hk, hl, hs⟩ := h
    obtain ⟨xs, r, q⟩ := tupKs_rep ds us hs
    exact ⟨.ref a, rfl, fun ρ G => rep_tup.mpr ⟨a, xs, rfl, .inr ⟨_, us.toArray, n, rfl, hk, rfl, rfl, by simpa using hl, r⟩, q ρ G⟩⟩
  | .non, _, h => by rw [TupK] at h; exact h.elim; all_goals (intros; contradiction)
  | .lst _, _, h => by rw [TupK] at h; exact h.elim; all_goals (intros; contradiction)
  | .dct _ _, _, h => by rw [TupK] at h; exact h.elim; all_goals (intros; contradiction)
  | .ins _ _ _, _, h => by rw [TupK] at h; exact h.elim; all_goals (intros; contradiction)
  | .ptr _, _, h => by rw [TupK] at h; exact h.elim; all_goals (intros; contradiction)
  | .scr _, _, h => by rw [TupK] at h; exact h.elim; all_goals (intros; contradiction)
  | .fn _ _, _, h => by rw [TupK] at h; exact h.elim; all_goals (intros; contradiction)
theorem tupKs_rep {C : Cn} : ∀ (ds : List D) (us : List Value), TupKs C.K ds us → ∃ xs, Vals xs us ∧ ∀ ρ G, Reps C ρ G ds xs
  | [], us, h => by
    rw [TupKs] at h
    subst h
    exact ⟨[], .nil, fun _ _ => .nil⟩
  | d :: ds, us, h => by
    rw [TupKs] at h
    obtain ⟨u, r, rfl, h1, h2⟩ := h
    obtain ⟨x, rx, qx⟩ := tupK_rep d u h1
    obtain ⟨xs, rxs, qxs⟩ := tupKs_rep ds r h2
    exact ⟨x :: xs, .cons rx rxs, fun ρ G => Reps.cons (qx ρ G) (qxs ρ G)⟩
end
section
variable {X : Cx} {cls : Nat → Addr} {W : WX} {x : Str} {pos : Pos}
theorem de_gnest {d : D} (hm : ∃ v, X.mg x = some v ∧ TupK X.K d v) (hg : Gl X x := by rfl) (hd : (x == ("__debug__" : Str)) = false := by decide) : DE X cls W (.Name x pos) (eC d) := by
  obtain ⟨v, hm, hk⟩ := hm
  obtain ⟨y, ry, q⟩ := tupK_rep (C := ⟨X.K, cls⟩) d v hk
  exact de_c (v := y) (pe_glob hg hm ry hd) fun ρ G => q ρ G
end
/-! ### x, y = a, b -/
def sPar (i j : Nat) (α : Da) : Ds := fun Γ S => after (α Γ S) Γ fun ds S1 => match ds with
  | [x, y] => .next ((Γ.set i (.val x)).set j (.val y)) S1
  | _ => .stuck
section
variable {X : Cx} {cls : Nat → Addr} {W : WX} {α : Da}
theorem ds_par {i j : Nat} {x y : Str} {a b : Expr} {px py pt pos : Pos} {kt k2 pt2} (hc : X.calm = true) (hN : X.N.Nodup) (hi : X.N[i]? = some x) (hj : X.N[j]? = some y) (hij : i ≠ j)
    (hx : X.env.scope.names.lookup x = some .local) (hy : X.env.scope.names.lookup y = some .local) (ha : DA X cls W [a, b] α)
    (hw : swappedStores [.Tuple [.Name x px, .Name y py] kt pt] (.Tuple [a, b] k2 pt2) X.env = pure (some [x, y]))
    (hs : swapsWithSole [.Tuple [.Name x px, .Name y py] kt pt] (.Tuple [a, b] k2 pt2) pos.line X.env = pure false := by rfl) :
    DS X cls W (.Assign [.Tuple [.Name x px, .Name y py] kt pt] (.Tuple [a, b] k2 pt2) pos) (sPar i j α) :=
  PS.weak (ps_par hc hN hi hj hij hx hy ha hw hs) fun D σ H ⟨en, Γ, S, ρ, G, s, p⟩ => ⟨Γ, S, ρ, G, s.mem, post_after s p fun ds S1 ρ1 G1 H1 vs m n s1 r p1 => by
    split at p1
    · rename_i d1 d2
      obtain ⟨v1, r1, rfl, q1, t1⟩ := r
      obtain ⟨v2, r2, rfl, q2, t2⟩ := t1
      cases t2
      exact ⟨v1, v2, rfl, p1 _ _ _ _ ((s1.setv i q1).setv j q2)⟩
    · exact p1.elim⟩
end
@[simp] theorem x_sPar {i j : Nat} {α : Da} {Γ : List Sl} {S : List D} : sPar i j α Γ S = after (α Γ S) Γ fun ds S1 => match ds with
  | [x, y] => .next ((Γ.set i (.val x)).set j (.val y)) S1
  | _ => .stuck := Eq.trans rfl rfl
end DL

namespace DL
open PySem PySem.Spec PyProof.Rows L2
/-! ### a tuple taken 0 times -/
theorem tuple_mul0 (a : Addr) (its : Array Value) (n : Nat) (od : Option Addr) (sl : Array (Option Value)) (x : Int) (u : Tok) (c0 : (decide (x < -(2 ^ 63)) || decide (x ≥ 2 ^ 63)) = false) (c1 : (its.isEmpty || x == 1) = false) (c2 : (decide (x ≤ 0) || its.isEmpty) = true) :
    Meets (Builtin.«tuple.__mul__» ⟨[.ref a, .int x u], []⟩) (fun _ R s => s.heap.get? a = some { cls := .type "tuple", dict := od, data := .seq its n, slots := sl } ∧
      R (.ok (.ret (Value.ref s.heap.objs.size))) { s with heap := s.heap.push { cls := Value.type "tuple", data := Data.seq #[] }, toks := s.toks }) :=
  .of_wp fun prog w A R st q => by
    obtain ⟨h1, h2, h3, h4, h5⟩ := st
    obtain ⟨ha, q⟩ := q
    have f1 := AutoSeq1.idx_int
    wp_walk using wpAny_loadPart' ha
    repeat (first
      | (refine wpAny_ite_false (decide_eq_false (by rw [c0]; exact Bool.noConfusion)) ?_; wp_walk using wpAny_loadPart' ha)
      | (refine wpAny_ite_false (decide_eq_false (by rw [c1]; exact Bool.noConfusion)) ?_; wp_walk using wpAny_loadPart' ha)
      | (refine wpAny_ite_true (decide_eq_true c2) ?_; wp_walk using wpAny_loadPart' ha))
    exact ⟨_, rfl, q⟩
def rRepT0 (K : PySem.W.Frag) : R2 := fun x y H Q => ∃ l k xs, x = .ref l ∧ y = .int k ∧ SqT K H l xs ∧ xs ≠ [] ∧ -1000 ≤ k ∧ k ≤ 0 ∧ xs.length ≤ 1000 ∧ NewX H Q []
theorem op_repT0 {X : Cx} : OpR X (binaryOp .Mult) (rRepT0 X.K) := by
  intro pins s σ H x y v u Q I rx ry h
  obtain ⟨l, k, xs, rfl, rfl, hT, hne, h1, h2, hz, q⟩ := h
  cases rx
  obtain ⟨t, rfl⟩ := ry
  obtain ⟨its, r, ⟨⟨kc, od, dat, sl⟩, ho, hc, n, hd⟩, hs⟩ := I.tuple hT
  simp only at hc hd
  subst hc hd
  have hi : its.toArray.isEmpty = false := by
    cases its with
    | nil => cases r; exact absurd rfl hne
    | cons a b => rfl
  have c0 : (decide (k < -(2 ^ 63)) || decide (k ≥ 2 ^ 63)) = false := by
    rw [decide_eq_false (by omega), decide_eq_false (by omega)]; rfl
  have c1 : (its.toArray.isEmpty || k == 1) = false := by
    rw [hi, Bool.false_or, beq_eq_false_iff_ne]; omega
  have c2 : (decide (k ≤ 0) || its.toArray.isEmpty) = true := by
    rw [decide_eq_true h2]; rfl
  refine wpAny_binaryOp_repeat_ref (T := "tuple") (U := "int") (by decide) ⟨_, ho, rfl⟩ (fun s' => typeIs_int s' k t) noFill_tuple_mul F.fills_int_mul F.slot_int_rmul repeat_tuple F.slot_int_index.lookup
    (call_meets F.slot_int_rmul (typeIs_int s k t) F.entry_int_rmul (F.args_int_rmul_2 _ _) (int_rmul_tuple k t l its.toArray n od sl) ⟨ho, rfl, ⟨_, ho, rfl⟩,
      call_meets F.slot_tuple_mul ⟨_, ho, rfl⟩ F.entry_tuple_mul (F.args_tuple_mul_2 _ _) (tuple_mul0 l its.toArray n od sl k t c0 c1 c2) ⟨ho, ?_⟩⟩)
  exact layX I .nil (Nat.zero_le _) q
def dMulT : D → D → Option D
  | .tup xs, .int k => if xs ≠ [] ∧ -1000 ≤ k ∧ k ≤ 1000 ∧ xs.length ≤ 1000 then some (.tup (List.replicate k.toNat xs).flatten) else none
  | _, _ => none
section
variable {X : Cx} {cls : Nat → Addr} {C : Cn} {W : WX} {a b : Expr} {pos : Pos} {δa δb : De}
theorem ok_MT : R2Ok C (RS C) (fun x y H Q => rRepT0 C.K x y H Q ∨ (rRepS C.K x y H Q ∨ rRepX C.K x y H Q)) dMulT := fun S ρ G H x y d dx dy Q m rx ry e q => by
  cases dx <;> try cases e
  rename_i xs
  cases dy <;> try cases e
  rename_i k
  by_cases hk : k ≤ 0
  · rw [rt_tup] at rx
    obtain ⟨a, vs, rfl, h1, r1⟩ := rx
    rw [rt_int] at ry
    subst ry
    simp only [dMulT] at e
    split at e
    · rename_i hp
      cases e
      have hl := r1.length
      refine .inl ⟨a, k, vs, rfl, rfl, m.sub.sqT h1, fun z => hp.1 ?_, hp.2.1, hk, by omega, fun p ob hpn hd => ?_⟩
      · rw [z] at hl
        exact List.eq_nil_of_length_eq_zero hl
      · obtain ⟨G2, m2, n2, r⟩ := x_newT m (ds := []) (vs := []) .nil hpn hd
        have z : k.toNat = 0 := by omega
        rw [z] at q
        exact q _ _ _ _ m2 n2 r
    · cases e
  · refine .inr (ok_TM S ρ G H x y d (.tup xs) (.int k) Q m rx ry ?_ q)
    simp only [dMulT] at e
    split at e
    · rename_i hp
      simp only [onTM]
      rw [if_pos ⟨by omega, hp.2.2.1, hp.2.2.2⟩]
      exact e
    · cases e
theorem de_mulT (ha : DO X cls W a δa) (hb : DO X cls W b δb) : DE X cls W (.BinOp a .Mult b pos) (eOp dMulT δa δb) :=
  de_op (op_repT0.or (op_repS.or op_repX)) ok_MT ha hb
end
end DL

namespace DL
open PySem PySem.Spec PyProof.Rows L2
/-! ### x.index(b), x a tuple of truth values -/
theorem vals_bl : ∀ {ys : List Bool} {us : List Value}, Vals (ys.map V.bl) us → us = ys.map Value.bool
  | [], _, h => by cases h; rfl
  | y :: ys, _, h => by
    cases h with
    | cons r t =>
      have e : _ = Value.bool y := r
      rw [vals_bl t, e]; rfl
theorem mt_ixB {X : Cx} : MtR X "tuple.index" (fun x xs H Q => ∃ (p : Addr) (ys : List Bool) (b : Bool) (j : Nat), x = .ref p ∧ xs = [.bl b] ∧ SqT X.K H p (ys.map V.bl) ∧ ys[j]? = some b ∧ (∀ m, m < j → ys[m]? ≠ some b) ∧ Q (.int (j : Nat)) H) := by
  intro ps st σ H x xs v us Q J rx rs ⟨p, ys, b, j, ex, exs, hq, hy, hno, q⟩
  subst ex exs
  cases rx
  obtain ⟨u, eu, ru⟩ := vals1 rs
  have eb : u = Value.bool b := ru
  subst eu eb
  obtain ⟨its, r, pl, hz⟩ := J.tuple hq
  obtain ⟨⟨kc, od, dat, sl⟩, ho, hc, n, hd⟩ := pl
  simp only at hc hd
  subst hc hd
  have ei := vals_bl r
  have hl : its.toArray.size = ys.length := by rw [List.size_toArray, ei, List.length_map]
  have hj : j < ys.length := (List.getElem?_eq_some_iff.mp hy).1
  have fl : (ys.map V.bl).all flatV = true := by
    rw [List.all_map]
    exact List.all_eq_true.mpr fun _ _ => rfl
  have at2 : ∀ (m : Nat) (hm : m < its.toArray.size) (y : Bool), ys[m]? = some y → eqU (.bl b) its.toArray[m] = (y == b) := fun m hm y e => by
    have e2 : its.toArray[m] = Value.bool y := by
      have e3 : its[m]? = some (Value.bool y) := by rw [ei, List.getElem?_map, e]; rfl
      have := (List.getElem?_eq_some_iff.mp e3).2
      simpa using this
    rw [e2]; rfl
  refine call_meets F.slot_tuple_index ⟨_, ho, rfl⟩ F.entry_tuple_index (F.args_tuple_index_2 _ _) (TI.tuple_indexAt p its.toArray n od sl (.bool b) (eqU (.bl b)) j (by rw [hl]; exact hj) ?_ fun m hm hmj => ?_)
    ⟨ho, fun w hw => mem_eqAt (x := .bl b) rfl rfl r fl w (by simpa using hw), ⟨.int (j : Nat), H, J.tok _, ⟨_, rfl⟩, q⟩⟩
  · rw [at2 j _ b hy]; exact beq_self_eq_true b
  · have hm' : m < ys.length := by rw [← hl]; exact hm
    have e := List.getElem?_eq_getElem hm'
    rw [at2 m hm _ e, beq_eq_false_iff_ne]
    intro z
    exact hno m hmj (by rw [e, z])
def tBX (K : PySem.W.Frag) (r : V → List V → Hp → VK → Prop) (to : TE) (t : TA) : TE := fun σ H Q => to σ H fun x H1 => (∃ a vs, x = .ref a ∧ SqX K H1 a vs) ∧ t σ H1 fun xs H2 => r x xs H2 Q
theorem sqX_is {X : Cx} {ps : List (Addr × Obj)} {σ : L2.St} {H : Hp} {st : Shared} {a : Addr} {vs : List V} (J : Inv X ps σ H st) (h : SqX X.K H a vs) : st.TypeIs (.ref a) "tuple" ∧ ∃ ob, st.heap.get? a = some ob ∧ ob.dict = none := by
  obtain ⟨its, _, pl, _⟩ := J.tuple h.sqT
  refine ⟨pl.typeIs, ?_⟩
  rcases h with ⟨ob, hd, e⟩ | ⟨ob, us, n, hd, e, _⟩
  · have := J.hok a _ e
    exact ⟨ob, this.1, hd⟩
  · exact ⟨ob, J.kIn a ob e, hd⟩
theorem pe_bx {X : Cx} {o e : Expr} {es : List Expr} {to : TE} {t : TA} {name : Str} {apos cpos : Pos} {id : String} {r : V → List V → Hp → VK → Prop} (slot : Slot "tuple" name id) (hty : typeOf (.builtin id) = pure (.type "method_descriptor")) (hm : MtR X id r) (ho : PE X o to) (ha : PA X (e :: es) t)
    (hb : attributeBase o name X.env (eval o X.env) = eval o X.env)
    (hf : ((backTo cpos (starEach (e :: es) X.env)).all (fun x => !x.1) && (backToKw cpos (keywordEach [] X.env)).all (fun x => x.1.isSome) && decide ((e :: es).length + ([] : List Keyword).length + (if ([] : List Keyword).isEmpty then 0 else 1) < 30)) = true)
    (hl : (apos.endLine == cpos.line) = true) (hs : starEach (e :: es) X.env = (false, eval e X.env) :: starEach es X.env) (hp : (backTo cpos (starEach es X.env)).any (·.1) = false) :
    PE X (.Call (.Attribute o name apos) (e :: es) [] cpos) (tBX X.K r to t) :=
  ⟨fun ps st σ H Q J hq => wpAny_Call_method_late hb hf hl rfl (thn (ho.run ps st σ H _ J hq) fun v s1 ⟨x, H1, J1, r1, ⟨a, vs, ex, sx⟩, q1⟩ => by
    subst ex
    have ev : v = .ref a := by cases r1; rfl
    subst ev
    obtain ⟨ti, ob, g, d⟩ := sqX_is J1 sx
    refine ⟨"tuple", id, F.plainAttrs_tuple, slot, hty, ti, fun b eb => ?_, ?_⟩
    · cases eb; exact ⟨ob, g, d⟩
    · have hA := ha.run cpos ps s1 σ H1 _ J1 q1
      rw [hs] at hA ⊢
      exact Calls.callWith_builtin (by show (false || (backTo cpos (starEach es X.env)).any (·.1)) = false; rw [hp]; rfl) (Calls.evalArgs_plain (thn hA fun us s2 ⟨ws, H2, J2, r2, q2⟩ => hm ps s2 σ H2 (.ref a) ws (.ref a) us Q J2 r1 r2 q2)))⟩
def asBs : List D → Option (List Bool)
  | [] => some []
  | .bl b :: xs => (asBs xs).map (b :: ·)
  | _ => none
theorem asBs_ok {C : Cn} {ρ : List Addr} {G : Hp} : ∀ {xs : List D} {ys : List Bool} {vs : List V}, asBs xs = some ys → Reps C ρ G xs vs → vs = ys.map V.bl
  | [], ys, vs, h, r => by
    rw [Reps] at r
    rw [asBs] at h; cases h
    exact r
  | x :: xs, ys, vs, h, r => by
    rw [Reps] at r
    obtain ⟨v, us, rfl, r1, r2⟩ := r
    cases x with
    | bl b =>
      rw [asBs] at h
      cases e : asBs xs with
      | none => rw [e] at h; cases h
      | some zs =>
        rw [e] at h; cases h
        rw [rep_bl.mp r1, asBs_ok e r2]; rfl
    | _ => simp [asBs] at h
def fstB (b : Bool) : List Bool → Option Nat
  | [] => none
  | y :: ys => if y = b then some 0 else (fstB b ys).map (· + 1)
theorem fstB_ok (b : Bool) : ∀ (ys : List Bool) (j : Nat), fstB b ys = some j → ys[j]? = some b ∧ ∀ m, m < j → ys[m]? ≠ some b
  | [], j, h => by cases h
  | y :: ys, j, h => by
    unfold fstB at h
    by_cases e : y = b
    · rw [if_pos e] at h; cases h
      subst e
      exact ⟨rfl, fun m hm => absurd hm (Nat.not_lt_zero _)⟩
    · rw [if_neg e] at h
      cases q : fstB b ys with
      | none => rw [q] at h; cases h
      | some k =>
        rw [q] at h; cases h
        obtain ⟨h1, h2⟩ := fstB_ok b ys k q
        refine ⟨by simpa using h1, fun m hm => ?_⟩
        cases m with
        | zero => intro z; simp at z; exact e z
        | succ m => simpa using h2 m (by have : m + 1 < k + 1 := hm; omega)
def eIxB (a b : De) : De := fun Γ S => (a Γ S).bind fun x S1 => match x with
  | .tup xs => (b Γ S1).bind fun y S2 => match y with
    | .bl c => ofO (((asBs xs).bind (fstB c)).map fun j => D.int (j : Nat)) S2
    | _ => .stuck
  | _ => .stuck
section
variable {X : Cx} {cls : Nat → Addr} {W : WX} {e b : Expr} {δa δb : De} {apos pos : Pos}
theorem de_ixB (ha : DE X cls W e δa) (hb : DE X cls W b δb)
    (hbase : attributeBase e "index" X.env (eval e X.env) = eval e X.env := by rfl)
    (hfew : ((backTo pos (starEach [b] X.env)).all (fun x => !x.1) && (backToKw pos (keywordEach [] X.env)).all (fun x => x.1.isSome) && decide ([b].length + ([] : List Keyword).length + (if ([] : List Keyword).isEmpty then 0 else 1) < 30)) = true := by rfl)
    (hline : (apos.endLine == pos.line) = true := by rfl) (hs : starEach [b] X.env = (false, eval b X.env) :: starEach [] X.env := by rfl) (hplain : (backTo pos (starEach [] X.env)).any (·.1) = false := by rfl) :
    DE X cls W (.Call (.Attribute e "index" apos) [b] [] pos) (eIxB δa δb) := by
  refine PE.weak (pe_bx F.slot_tuple_index F.type_tuple_index mt_ixB ha (pa_cons hb pa_nil hs) hbase hfew hline hs hplain) fun σ H Q ⟨Γ, S, ρ, G, m, p⟩ => ?_
  refine ⟨Γ, S, ρ, G, m, (Post.seq back_RS p).mono fun x H1 ⟨dx, S1, ρ1, G1, m1, n1, r1, p1⟩ => ?_⟩
  cases dx with
  | tup xs =>
    obtain ⟨a, vs, rfl, sx, rs⟩ := rep_tup.mp r1
    refine ⟨⟨a, vs, rfl, m1.sub.sqX sx⟩, Γ, S1, ρ1, G1, m1, (Post.seq back_RS p1).mono fun y H2 ⟨dy, S2, ρ2, G2, m2, n2, r2, p2⟩ => ?_⟩
    cases dy with
    | bl c =>
      obtain ⟨d, hd3, p4⟩ := ofO_post p2
      cases q : asBs xs with
      | none => rw [q] at hd3; cases hd3
      | some ys =>
        rw [q] at hd3
        cases q2 : fstB c ys with
        | none => rw [show ((some ys).bind (fstB c)) = fstB c ys from rfl, q2] at hd3; cases hd3
        | some j =>
          rw [show ((some ys).bind (fstB c)) = fstB c ys from rfl, q2] at hd3; cases hd3
          obtain ⟨h1, h2⟩ := fstB_ok c ys j q2
          have ev := asBs_ok q rs
          subst ev
          obtain ⟨a2, vs2, e2, sx2, _⟩ := rep_tup.mp (r1.mono n2.ext n2.pre)
          have sx3 : SqX X.K G2 a (ys.map V.bl) := n2.ext.sqT sx
          rw [rep_bl.mp r2]
          exact ⟨a, ys, c, j, rfl, rfl, m2.sub.sqT sx3, h1, h2, p4.at m2 (rep_int.mpr rfl)⟩
    | _ => exact p2.elim
  | _ => exact p1.elim
@[simp] theorem x_eIxB {Γ : List Sl} {S : List D} : eIxB δa δb Γ S = (δa Γ S).bind fun x S1 => match x with
  | .tup xs => (δb Γ S1).bind fun y S2 => match y with
    | .bl c => ofO (((asBs xs).bind (fstB c)).map fun j => D.int (j : Nat)) S2
    | _ => .stuck
  | _ => .stuck := Eq.trans rfl rfl
/-! ### x is True, x is False -/
def cIsB : D → D → Option D | .bl a, .bl b => some (.bl (decide (a = b))) | _, _ => none
def cIsNotB : D → D → Option D | .bl a, .bl b => some (.bl (!decide (a = b))) | _, _ => none
theorem ok_isB {C : Cn} : R2Ok C (RS C) (fun x y H Q => ∃ a b, x = .bl a ∧ y = .bl b ∧ Q (.bl (decide (a = b))) H) cIsB := fun S ρ G H x y d dx dy Q m rx ry e q => by
  cases dx <;> try cases e
  cases dy <;> try cases e
  rw [rt_bl] at rx ry
  subst rx ry
  exact ⟨_, _, rfl, rfl, q _ _ _ _ m .refl (rep_bl.mpr rfl)⟩
theorem ok_notB {C : Cn} : R2Ok C (RS C) (fun x y H Q => ∃ a b, x = .bl a ∧ y = .bl b ∧ Q (.bl (!decide (a = b))) H) cIsNotB := fun S ρ G H x y d dx dy Q m rx ry e q => by
  cases dx <;> try cases e
  cases dy <;> try cases e
  rw [rt_bl] at rx ry
  subst rx ry
  exact ⟨_, _, rfl, rfl, q _ _ _ _ m .refl (rep_bl.mpr rfl)⟩
theorem dt_isB (ha : DO X cls W e δa) (hb : DO X cls W b δb) : DT X cls W (.Compare e [.Is] [b] pos) (tB (eOp cIsB δa δb)) := dt_cmp op_is_bl ok_isB ha hb (nomark _)
theorem dt_notB (ha : DO X cls W e δa) (hb : DO X cls W b δb) : DT X cls W (.Compare e [.IsNot] [b] pos) (tB (eOp cIsNotB δa δb)) := dt_cmp op_isnot_bl ok_notB ha hb (nomark _)
theorem de_isB (ha : DO X cls W e δa) (hb : DO X cls W b δb) : DE X cls W (.Compare e [.Is] [b] pos) (eOp cIsB δa δb) := de_cmp op_is_bl ok_isB ha hb (nomark _)
theorem de_notB (ha : DO X cls W e δa) (hb : DO X cls W b δb) : DE X cls W (.Compare e [.IsNot] [b] pos) (eOp cIsNotB δa δb) := de_cmp op_isnot_bl ok_notB ha hb (nomark _)
@[simp] theorem cIsB_bl {x y : Bool} : cIsB (.bl x) (.bl y) = some (.bl (decide (x = y))) := Eq.trans rfl rfl
@[simp] theorem cIsNotB_bl {x y : Bool} : cIsNotB (.bl x) (.bl y) = some (.bl (!decide (x = y))) := Eq.trans rfl rfl
end
end DL

namespace DL
open PySem L2

/-! ### reckoning with denotations -/
section
variable {Γ : List Sl} {S : List D} {a b c : De} {t u : Dt} {α β : Da}
@[simp] theorem x_eV {i : Nat} : eV i Γ S = match Γ[i]? with | some (.val d) => .ok d S | _ => .stuck := Eq.trans rfl rfl
@[simp] theorem x_oV {i : Nat} : oV i Γ S = match Γ[i]? with | some (.val d) => .ok d S | some (.own d) => .ok d S | _ => .stuck := Eq.trans rfl rfl
@[simp] theorem x_eC {d : D} : eC d Γ S = .ok d S := Eq.trans rfl rfl
@[simp] theorem x_eOp {f : D → D → Option D} : eOp f a b Γ S = (a Γ S).bind fun x S1 => (b Γ S1).bind fun y S2 => ofO (f (deref S2 x) (deref S2 y)) S2 := Eq.trans rfl rfl
@[simp] theorem x_eUn {f : D → Option D} : eUn f a Γ S = (a Γ S).bind fun x S1 => ofO (f (deref S1 x)) S1 := Eq.trans rfl rfl
@[simp] theorem x_tB : tB a Γ S = (a Γ S).bind fun x S1 => ofO (asB x) S1 := Eq.trans rfl rfl
@[simp] theorem x_tTru : tTru a Γ S = (a Γ S).bind fun x S1 => ofO (dTruth (deref S1 x)) S1 := Eq.trans rfl rfl
@[simp] theorem x_tAnd : tAndD t u Γ S = (t Γ S).bind fun x S1 => if x then u Γ S1 else .ok false S1 := Eq.trans rfl rfl
@[simp] theorem x_tOr : tOrD t u Γ S = (t Γ S).bind fun x S1 => if x then .ok true S1 else u Γ S1 := Eq.trans rfl rfl
@[simp] theorem x_tNot : tNotD t Γ S = (t Γ S).bind fun x S1 => .ok (!x) S1 := Eq.trans rfl rfl
@[simp] theorem x_tTrue : tTrue Γ S = .ok true S := Eq.trans rfl rfl
@[simp] theorem x_eIf : eIf t a b Γ S = (t Γ S).bind fun x S1 => if x then a Γ S1 else b Γ S1 := Eq.trans rfl rfl
@[simp] theorem x_eAnd : eAnd a b Γ S = (a Γ S).bind fun x S1 => match asB x with | some true => b Γ S1 | some false => .ok (.bl false) S1 | none => .stuck := Eq.trans rfl rfl
@[simp] theorem x_eOr : eOr a b Γ S = (a Γ S).bind fun x S1 => match asB x with | some true => .ok (.bl true) S1 | some false => b Γ S1 | none => .stuck := Eq.trans rfl rfl
@[simp] theorem x_eNot : eNot a Γ S = (a Γ S).bind fun x S1 => match asB x with | some b => .ok (.bl (!b)) S1 | none => .stuck := Eq.trans rfl rfl
@[simp] theorem x_aNil : aNil Γ S = .ok [] S := Eq.trans rfl rfl
@[simp] theorem x_aCons : aCons a α Γ S = (a Γ S).bind fun x S1 => (α Γ S1).bind fun xs S2 => .ok (x :: xs) S2 := Eq.trans rfl rfl
@[simp] theorem x_eCall {F : List D → List D → Res D} : eCall F α Γ S = (α Γ S).bind fun ds S1 => F ds S1 := Eq.trans rfl rfl
@[simp] theorem x_eTup : eTup α Γ S = (α Γ S).bind fun ds S1 => .ok (.tup ds) S1 := Eq.trans rfl rfl
@[simp] theorem x_eLst : eLst α Γ S = (α Γ S).bind fun ds S1 => .ok (.lst ds) S1 := Eq.trans rfl rfl
@[simp] theorem x_eBox : eBox a Γ S = (a Γ S).bind fun d S1 => .ok (.ptr S1.length) (S1 ++ [d]) := Eq.trans rfl rfl
@[simp] theorem x_pNo : pNo Γ S = .ok none S := Eq.trans rfl rfl
@[simp] theorem x_pSo : pSo a Γ S = (a Γ S).bind fun x S1 => ofO ((asI x).map some) S1 := Eq.trans rfl rfl
@[simp] theorem x_eCut {f : D → Option Int → Option Int → Option D} {l h : Dp_} : eCut f a l h Γ S = (a Γ S).bind fun x S1 => (l Γ S1).bind fun l S2 => (h Γ S2).bind fun h S3 => ofO (f (deref S3 x) l h) S3 := Eq.trans rfl rfl
@[simp] theorem x_eComp {p : Pat} {vs : List Nat} : eComp α p vs t a Γ S = (α Γ S).bind fun xs S1 => (compD p t a xs (wipeD Γ vs) S1).bind fun ds S2 => ofO (lenOk ds) S2 := Eq.trans rfl rfl
@[simp] theorem x_iA : iA a Γ S = (a Γ S).bind fun x S1 => ofO (items x) S1 := Eq.trans rfl rfl
@[simp] theorem x_iR1 : iR1 a Γ S = (a Γ S).bind fun x S1 => match asI x with | some j => if inR j then .ok (rangeD 0 j.toNat) S1 else .stuck | none => .stuck := Eq.trans rfl rfl
@[simp] theorem x_iR2 : iR2 a b Γ S = (a Γ S).bind fun x S1 => (b Γ S1).bind fun y S2 => match asI x, asI y with | some i, some j => if inR i ∧ inR j then .ok (rangeD i (j - i).toNat) S2 else .stuck | _, _ => .stuck := Eq.trans rfl rfl
@[simp] theorem x_asB {k : Bool} : asB (.bl k) = some k := Eq.trans rfl rfl
@[simp] theorem x_asI {k : Int} : asI (.int k) = some k := Eq.trans rfl rfl
variable {s1 s2 : Ds}
@[simp] theorem x_sNext : sNext Γ S = .next Γ S := Eq.trans rfl rfl
@[simp] theorem x_sSeq : sSeq s1 s2 Γ S = match s1 Γ S with | .next Γ' S' => s2 Γ' S' | o => o := Eq.trans rfl rfl
@[simp] theorem x_sExpr : sExpr a Γ S = after (a Γ S) Γ fun _ S1 => .next Γ S1 := Eq.trans rfl rfl
@[simp] theorem x_sRet : sRet a Γ S = after (a Γ S) Γ fun d S1 => .ret d S1 := Eq.trans rfl rfl
@[simp] theorem x_sRetN : sRetN Γ S = .ret .non S := Eq.trans rfl rfl
@[simp] theorem x_sRetO {i : Nat} : sRetO i Γ S = match Γ[i]? with | some (.own d) => .ret d S | _ => .stuck := Eq.trans rfl rfl
@[simp] theorem x_sSet {i : Nat} : sSet i a Γ S = after (a Γ S) Γ fun d S1 => .next (Γ.set i (.val d)) S1 := Eq.trans rfl rfl
@[simp] theorem x_sOwn {i : Nat} : sOwn i a Γ S = after (a Γ S) Γ fun d S1 => .next (Γ.set i (.own d)) S1 := Eq.trans rfl rfl
@[simp] theorem x_sIf : sIf t s1 s2 Γ S = after (t Γ S) Γ fun k S1 => if k then s1 Γ S1 else s2 Γ S1 := Eq.trans rfl rfl
@[simp] theorem x_sBrk : sBrk Γ S = .brk Γ S := Eq.trans rfl rfl
@[simp] theorem x_sCont : sCont Γ S = .cont Γ S := Eq.trans rfl rfl
@[simp] theorem x_sClr {kl : List Nat} : sClr kl Γ S = .next (clr kl Γ) S := Eq.trans rfl rfl
@[simp] theorem x_sSettle {i : Nat} : sSettle i Γ S = match Γ[i]? with | some (.own d) => .next (Γ.set i (.val d)) S | _ => .stuck := Eq.trans rfl rfl
@[simp] theorem x_sAppO {i : Nat} : sAppO i a Γ S = match Γ[i]? with
  | some (.own (.lst xs)) => after (a Γ S) Γ fun d S1 => if xs.length < sizeLine then .next (Γ.set i (.own (.lst (xs ++ [d])))) S1 else .stuck
  | _ => .stuck := Eq.trans rfl rfl
@[simp] theorem x_sSetO {i : Nat} {k : De} : sSetO i k a Γ S = after (a Γ S) Γ fun d S1 => match Γ[i]? with
  | some (.own (.lst xs)) => after (k Γ S1) Γ fun x S2 => match (asI x).bind (ixN xs.length) with
    | some j => .next (Γ.set i (.own (.lst (xs.set j d)))) S2
    | none => .stuck
  | _ => .stuck := Eq.trans rfl rfl
@[simp] theorem x_sSetP {o k : De} : sSetP o k a Γ S = after (a Γ S) Γ fun d S1 => after (o Γ S1) Γ fun x S2 => after (k Γ S2) Γ fun y S3 => match x with
  | .ptr q => match S3[q]? with
    | some (.lst xs) => match (asI y).bind (ixN xs.length) with
      | some j => .next Γ (S3.set q (.lst (xs.set j d)))
      | none => .stuck
    | _ => .stuck
  | _ => .stuck := Eq.trans rfl rfl
@[simp] theorem x_sAug {i : Nat} {f : D → D → Option D} : sAug i f a Γ S = match Γ[i]? with
  | some (.val dx) => after (a Γ S) Γ fun dy S1 => match f (deref S1 dx) (deref S1 dy) with
    | some d => .next (Γ.set i (.val d)) S1
    | none => .stuck
  | _ => .stuck := Eq.trans rfl rfl
@[simp] theorem x_sBind {p : Pat} : sBind p a Γ S = after (a Γ S) Γ fun d S1 => match p.bind d Γ with | some Γ' => .next Γ' S1 | none => .stuck := Eq.trans rfl rfl
@[simp] theorem x_sFor {p : Pat} {kl : List Nat} : sFor α p kl s1 Γ S = after (α Γ S) Γ fun xs S1 => forD p kl s1 xs Γ S1 := Eq.trans rfl rfl
@[simp] theorem x_bodyRun {n : Nat} {ds : List D} : bodyRun n s1 ds S = match s1 (ds.map Sl.val ++ List.replicate (n - ds.length) Sl.non) S with
  | .next _ S' => .ok .non S'
  | .ret d S' => .ok d S'
  | .exc e _ S' => .exc e S'
  | _ => .stuck := Eq.trans rfl rfl
@[simp] theorem x_clr0 : clr [] Γ = Γ := Eq.trans rfl rfl
@[simp] theorem x_clr1 {i : Nat} {r : List Nat} : clr (i :: r) Γ = clr r (Γ.set i .non) := Eq.trans rfl rfl
@[simp] theorem x_wipe0 : wipeD Γ [] = Γ := Eq.trans rfl rfl
@[simp] theorem x_wipe1 {i : Nat} {r : List Nat} : wipeD Γ (i :: r) = (wipeD Γ r).set i .non := Eq.trans rfl rfl
@[simp] theorem x_bnm {i : Nat} {d : D} : (Pat.nm i).bind d Γ = some (Γ.set i (.val d)) := by rw [Pat.bind]
@[simp] theorem x_btp {ps : List Pat} {ds : List D} : (Pat.tp ps).bind (.tup ds) Γ = Pat.binds ps ds Γ := by rw [Pat.bind]
@[simp] theorem x_bul {ps : List Pat} {ds : List D} : (Pat.ul ps).bind (.lst ds) Γ = Pat.binds ps ds Γ := by rw [Pat.bind]
@[simp] theorem x_bs0 : Pat.binds [] [] Γ = some Γ := by rw [Pat.binds]
@[simp] theorem x_bs1 {p : Pat} {ps : List Pat} {d : D} {ds : List D} : Pat.binds (p :: ps) (d :: ds) Γ = match p.bind d Γ with | some Γ' => Pat.binds ps ds Γ' | none => none := by
  rw [Pat.binds]; try (cases p.bind d Γ <;> rfl)
end
@[simp] theorem deref_non {S : List D} : deref S .non = .non := Eq.trans rfl rfl
@[simp] theorem deref_bl {S : List D} {b : Bool} : deref S (.bl b) = .bl b := Eq.trans rfl rfl
@[simp] theorem deref_int {S : List D} {b : Int} : deref S (.int b) = .int b := Eq.trans rfl rfl
@[simp] theorem deref_str {S : List D} {b : Str} : deref S (.str b) = .str b := Eq.trans rfl rfl
@[simp] theorem deref_lst {S : List D} {b : List D} : deref S (.lst b) = .lst b := Eq.trans rfl rfl
@[simp] theorem deref_tup {S : List D} {b : List D} : deref S (.tup b) = .tup b := Eq.trans rfl rfl
@[simp] theorem deref_dct {S : List D} {k : List Key} {b : List D} : deref S (.dct k b) = .dct k b := Eq.trans rfl rfl
@[simp] theorem deref_ins {S : List D} {c : Nat} {k : List Str} {b : List D} : deref S (.ins c k b) = .ins c k b := Eq.trans rfl rfl
@[simp] theorem deref_scr {S : List D} {b : List Int} : deref S (.scr b) = .scr b := Eq.trans rfl rfl
@[simp] theorem deref_ptr {S : List D} {k : Nat} : deref S (.ptr k) = match S[k]? with | some d => d | none => .ptr k := Eq.trans rfl rfl
@[simp] theorem onI_int {P : Int → Int → Bool} {g : Int → Int → Int} {i j : Int} : onI P g (.int i) (.int j) = if P i j then some (.int (g i j)) else none := Eq.trans rfl rfl
@[simp] theorem dOrd_int {p : Int → Int → Bool} {q : Str → Str → Bool} {i j : Int} : dOrd p q (.int i) (.int j) = some (.bl (p i j)) := Eq.trans rfl rfl
@[simp] theorem dOrd_str {p : Int → Int → Bool} {q : Str → Str → Bool} {i j : Str} : dOrd p q (.str i) (.str j) = some (.bl (q i j)) := Eq.trans rfl rfl
@[simp] theorem dAdd_int {i j : Int} : dAdd (.int i) (.int j) = some (.int (i + j)) := Eq.trans rfl rfl
@[simp] theorem dAddI_int {i j : Int} : dAddI (.int i) (.int j) = some (.int (i + j)) := Eq.trans rfl rfl
theorem dAdd_tup {a b : List D} (h : a.length + b.length ≤ 1000000) : dAdd (.tup a) (.tup b) = some (.tup (a ++ b)) := if_pos (Nat.le_trans h (by decide))
theorem dAdd_lst {a b : List D} (h : a.length + b.length ≤ 1000000) : dAdd (.lst a) (.lst b) = some (.lst (a ++ b)) := if_pos (Nat.le_trans h (by decide))
theorem onL_lst {a b : List D} (h : a.length + b.length ≤ 1000000) : onL (.lst a) (.lst b) = some (.lst (a ++ b)) := if_pos (Nat.le_trans h (by decide))
theorem dMul_int {i j : Int} (h : -(2 ^ 64) < j ∧ j < 2 ^ 64) : dMul (.int i) (.int j) = some (.int (i * j)) := if_pos (.inr h)
theorem dMul_intl {i j : Int} (h : -(2 ^ 64) < i ∧ i < 2 ^ 64) : dMul (.int i) (.int j) = some (.int (i * j)) := if_pos (.inl h)
@[simp] theorem x_fPow_18 : fPow (.int 10) (.int 18) = some (.int P18) := fPow_18
@[simp] theorem dInt_int {i : Int} : dInt (.int i) = some (.int i) := Eq.trans rfl rfl
@[simp] theorem dInt_bl {b : Bool} : dInt (.bl b) = some (.int (if b then 1 else 0)) := Eq.trans rfl rfl
@[simp] theorem dNeg_int {i : Int} : dNeg (.int i) = some (.int (-i)) := Eq.trans rfl rfl
@[simp] theorem dLen_lst {xs : List D} : dLen (.lst xs) = some (.int xs.length) := Eq.trans rfl rfl
@[simp] theorem dLen_tup {xs : List D} : dLen (.tup xs) = some (.int xs.length) := Eq.trans rfl rfl
@[simp] theorem dLen_scr {xs : List Int} : dLen (.scr xs) = some (.int xs.length) := Eq.trans rfl rfl
@[simp] theorem dIdx_lst {xs : List D} {i : Int} : dIdx (.lst xs) (.int i) = atI xs i := Eq.trans rfl rfl
@[simp] theorem dIdx_tup {xs : List D} {i : Int} : dIdx (.tup xs) (.int i) = atI xs i := Eq.trans rfl rfl
@[simp] theorem dIdx_scr {xs : List Int} {i : Int} : dIdx (.scr xs) (.int i) = (atI xs i).map .int := Eq.trans rfl rfl
@[simp] theorem dTruth_non : dTruth .non = some false := Eq.trans rfl rfl
@[simp] theorem dTruth_bl {b : Bool} : dTruth (.bl b) = some b := Eq.trans rfl rfl
@[simp] theorem dTruth_int {b : Int} : dTruth (.int b) = some (b != 0) := Eq.trans rfl rfl
@[simp] theorem dTruth_lst {b : List D} : dTruth (.lst b) = some (!b.isEmpty) := Eq.trans rfl rfl
@[simp] theorem dTruth_tup {b : List D} : dTruth (.tup b) = some (!b.isEmpty) := Eq.trans rfl rfl
@[simp] theorem dTuple_lst {b : List D} : dTuple (.lst b) = some (.tup b) := Eq.trans rfl rfl
@[simp] theorem dTuple_tup {b : List D} : dTuple (.tup b) = some (.tup b) := Eq.trans rfl rfl
@[simp] theorem dList_lst {b : List D} : dList (.lst b) = some (.lst b) := Eq.trans rfl rfl
@[simp] theorem dList_tup {b : List D} : dList (.tup b) = some (.lst b) := Eq.trans rfl rfl
@[simp] theorem dCut_lst {b : List D} {l h : Option Int} : dCut (.lst b) l h = some (.lst (cutD b l h)) := Eq.trans rfl rfl
@[simp] theorem dCut_tup {b : List D} {l h : Option Int} : dCut (.tup b) l h = some (.tup (cutD b l h)) := Eq.trans rfl rfl
@[simp] theorem onlyL_lst {b : List D} {l h : Option Int} : onlyL (.lst b) l h = some (.lst (cutD b l h)) := Eq.trans rfl rfl
@[simp] theorem items_lst {b : List D} : items (.lst b) = some b := Eq.trans rfl rfl
@[simp] theorem items_tup {b : List D} : items (.tup b) = some b := Eq.trans rfl rfl
@[simp] theorem dIsi_tup {b : List D} : dIsi "tuple" (.tup b) = some (.bl true) := by unfold dIsi tyN; rfl
theorem inR_of {i : Int} (h : -(2 ^ 62) ≤ i ∧ i < 2 ^ 62) : inR i = true := decide_eq_true h
theorem lenOk_of {ds : List D} (h : ds.length ≤ 1000000) : lenOk ds = some (.lst ds) := if_pos (Nat.le_trans h (by decide))
theorem atI_get? {α : Type} {xs : List α} {k : Nat} : atI xs (k : Int) = xs[k]? := by
  unfold atI ixN
  by_cases h : k < xs.length
  · rw [if_pos (by omega), if_pos (by omega)]; simp
  · rw [if_pos (by omega), if_neg (by omega), List.getElem?_eq_none (by omega)]; rfl
theorem atI_neg1 {α : Type} {xs : List α} : atI xs (-1) = xs.getLast? := by
  unfold atI ixN
  rw [if_neg (by omega)]
  by_cases h : 0 < xs.length
  · rw [if_pos (by omega)]
    have : (-1 + (xs.length : Int)).toNat = xs.length - 1 := by omega
    simp [this, List.getLast?_eq_getElem?]
  · have : xs = [] := List.eq_nil_of_length_eq_zero (by omega)
    subst this; rfl

/-! ### by what is wanted -/
def WR {α : Type} (r : Res α) (Q : α → List D → Prop) : Prop := match r with | .ok a S => Q a S | _ => False
def WO (o : Out) (N : List Sl → List D → Prop) (R : D → List D → Prop) : Prop := match o with
  | .next Γ S => N Γ S
  | .ret d S => R d S
  | _ => False
/-- a loop's turn: what goes on, what is returned, what breaks -/
def WT (o : Out) (N : List Sl → List D → Prop) (R : D → List D → Prop) (B : List Sl → List D → Prop) : Prop := match o with
  | .next Γ S => N Γ S
  | .cont Γ S => N Γ S
  | .brk Γ S => B Γ S
  | .ret d S => R d S
  | _ => False
theorem WR.ok {α : Type} {r : Res α} {Q : α → List D → Prop} (h : WR r Q) : ∃ a S, r = .ok a S ∧ Q a S := by
  cases r with
  | ok a S => exact ⟨a, S, rfl, h⟩
  | exc _ _ => exact h.elim
  | stuck => exact h.elim
theorem WO.mono {o : Out} {N N' : List Sl → List D → Prop} {R R' : D → List D → Prop} (h : WO o N R) (h1 : ∀ Γ S, N Γ S → N' Γ S) (h2 : ∀ d S, R d S → R' d S) : WO o N' R' := by
  cases o with
  | next _ _ => exact h1 _ _ h
  | ret _ _ => exact h2 _ _ h
  | _ => exact h
theorem WT.mono {o : Out} {N N' B B' : List Sl → List D → Prop} {R R' : D → List D → Prop} (h : WT o N R B) (h1 : ∀ Γ S, N Γ S → N' Γ S) (h2 : ∀ d S, R d S → R' d S) (h3 : ∀ Γ S, B Γ S → B' Γ S) : WT o N' R' B' := by
  cases o with
  | next _ _ => exact h1 _ _ h
  | cont _ _ => exact h1 _ _ h
  | brk _ _ => exact h3 _ _ h
  | ret _ _ => exact h2 _ _ h
  | _ => exact h
theorem forD_wp {p : Pat} {kl : List Nat} {β : Ds} {R : D → List D → Prop} {N : List Sl → List D → Prop} (I : Nat → List Sl → List D → Prop) : ∀ (xs : List D) (i : Nat) (Γ : List Sl) (S : List D), I i Γ S →
    (∀ j x Γ S, xs[j]? = some x → I (i + j) Γ S → ∃ Γ1, p.bind x Γ = some Γ1 ∧ WT (β Γ1 S) (fun Γ2 S2 => I (i + j + 1) (clr kl Γ2) S2) R (fun Γ2 S2 => N (clr kl Γ2) S2)) →
    (∀ Γ S, I (i + xs.length) Γ S → N Γ S) → WO (forD p kl β xs Γ S) N R
  | [], i, Γ, S, h, _, he => he Γ S h
  | x :: xs, i, Γ, S, h, hs, he => by
    obtain ⟨Γ1, hb, hw⟩ := hs 0 x Γ S rfl h
    rw [forD, hb]
    simp only
    have next : ∀ Γ2 S2, I (i + 0 + 1) (clr kl Γ2) S2 → WO (forD p kl β xs (clr kl Γ2) S2) N R := fun Γ2 S2 k =>
      forD_wp I xs (i + 1) _ S2 k (fun j y Γ S hy hI => by
        have := hs (j + 1) y Γ S (by simpa using hy) (by rw [show i + (j + 1) = i + 1 + j by omega]; exact hI)
        rw [show i + (j + 1) + 1 = i + 1 + j + 1 by omega] at this
        exact this) (fun Γ S hI => he Γ S (by rw [List.length_cons, show i + (xs.length + 1) = i + 1 + xs.length by omega]; exact hI))
    cases z : β Γ1 S with
    | next Γ2 S2 => rw [z] at hw; exact next Γ2 S2 hw
    | cont Γ2 S2 => rw [z] at hw; exact next Γ2 S2 hw
    | brk Γ2 S2 => rw [z] at hw; exact hw
    | ret d S2 => rw [z] at hw; exact hw
    | exc _ _ _ => rw [z] at hw; exact hw.elim
    | stuck => rw [z] at hw; exact hw.elim
/-- a comprehension whose elements are told one by one -/
theorem compD_map {p : Pat} {ε : De} {Γ : List Sl} {I : List D → Prop} {P : Nat → D → D → Prop} : ∀ (xs : List D) (i : Nat) (S : List D), I S →
    (∀ j x S, xs[j]? = some x → I S → ∃ Γ1 d S', p.bind x Γ = some Γ1 ∧ ε Γ1 S = .ok d S' ∧ I S' ∧ P (i + j) x d) →
    ∃ ds S', compD p tTrue ε xs Γ S = .ok ds S' ∧ I S' ∧ ds.length = xs.length ∧ ∀ (j : Nat) x d, xs[j]? = some x → ds[j]? = some d → P (i + j) x d
  | [], i, S, h, _ => ⟨[], S, rfl, h, rfl, fun j x d hx => by simp at hx⟩
  | x :: xs, i, S, h, hs => by
    obtain ⟨Γ1, d, S1, hb, he, hI, hP⟩ := hs 0 x S rfl h
    obtain ⟨ds, S2, h1, h2, h3, h4⟩ := compD_map xs (i + 1) S1 hI fun j y S hy hI => by
      have := hs (j + 1) y S (by simpa using hy) hI
      rw [show i + (j + 1) = i + 1 + j by omega] at this
      exact this
    refine ⟨d :: ds, S2, ?_, h2, by rw [List.length_cons, List.length_cons, h3], fun j y e hy hd => ?_⟩
    · rw [compD, hb]
      simp [he, h1]
    · cases j with
      | zero => simp at hy hd; subst hy hd; exact hP
      | succ j =>
        have := h4 j y e (by simpa using hy) (by simpa using hd)
        rw [show i + 1 + j = i + (j + 1) by omega] at this
        exact this
/-- a comprehension whose element is a function of the item -/
theorem compD_pure {p : Pat} {ε : De} {Γ : List Sl} {S : List D} {f : D → D} : ∀ (xs : List D), (∀ x ∈ xs, ∃ Γ1, p.bind x Γ = some Γ1 ∧ ε Γ1 S = .ok (f x) S) → compD p tTrue ε xs Γ S = .ok (xs.map f) S
  | [], _ => rfl
  | x :: xs, h => by
    obtain ⟨Γ1, hb, he⟩ := h x List.mem_cons_self
    rw [compD, hb]
    simp [he, compD_pure xs fun y hy => h y (List.mem_cons_of_mem _ hy)]
theorem rangeD_len {lo : Int} {n : Nat} : (rangeD lo n).length = n := by unfold rangeD; simp
theorem rangeD_get {lo : Int} {n j : Nat} {x : D} (h : (rangeD lo n)[j]? = some x) : j < n ∧ x = .int (lo + j) := by
  unfold rangeD at h
  rw [List.getElem?_map] at h
  by_cases hj : j < n
  · rw [List.getElem?_range hj] at h; cases h; exact ⟨hj, rfl⟩
  · rw [List.getElem?_eq_none (by simp; omega)] at h; cases h
theorem rangeD_mem {lo : Int} {n : Nat} {x : D} (h : x ∈ rangeD lo n) : ∃ j : Nat, j < n ∧ x = .int (lo + j) := by
  obtain ⟨j, hj⟩ := List.mem_iff_getElem?.mp h
  exact ⟨j, rangeD_get hj⟩
end DL

namespace DL
open PySem L2

/-! ### == of data without ints, without truth values -/
mutual
def okI : D → Bool
  | .non => true
  | .bl _ => true
  | .int _ => false
  | .str x => PyData.canLay0 (.str x)
  | .lst xs => okIs xs
  | .tup xs => okIs xs
  | .dct _ _ => false
  | .ins _ _ _ => false
  | .ptr _ => false
  | .scr _ => false
  | .fn _ _ => false
def okIs : List D → Bool
  | [] => true
  | x :: xs => okI x && okIs xs
end
mutual
def okB : D → Bool
  | .non => true
  | .bl _ => false
  | .int _ => true
  | .str x => PyData.canLay0 (.str x)
  | .lst xs => okBs xs
  | .tup xs => okBs xs
  | .dct _ _ => false
  | .ins _ _ _ => false
  | .ptr _ => false
  | .scr _ => false
  | .fn _ _ => false
def okBs : List D → Bool
  | [] => true
  | x :: xs => okB x && okBs xs
end
mutual
def dep : D → Nat
  | .lst xs => deps xs + 1
  | .tup xs => deps xs + 1
  | .non => 0
  | .bl _ => 0
  | .int _ => 0
  | .str _ => 0
  | .dct _ _ => 0
  | .ins _ _ _ => 0
  | .ptr _ => 0
  | .scr _ => 0
  | .fn _ _ => 0
def deps : List D → Nat
  | [] => 0
  | x :: xs => max (dep x) (deps xs)
end
/-! any data -/
mutual
def okD : D → Bool
  | .non => true
  | .bl _ => true
  | .int _ => true
  | .str x => PyData.canLay0 (.str x)
  | .lst xs => okDs xs
  | .tup xs => okDs xs
  | .dct _ _ => false
  | .ins _ _ _ => false
  | .ptr _ => false
  | .scr _ => false
  | .fn _ _ => false
def okDs : List D → Bool
  | [] => true
  | x :: xs => okD x && okDs xs
end
mutual
theorem okD_py : ∀ (d : D), okD d = true → ∃ p, toPy d = some p ∧ p.canLay0 = true ∧ p.depth = dep d
  | .non, _ => ⟨_, by rw [toPy], by rw [PyData.canLay0], by rw [PyData.depth, dep]⟩
  | .bl _, _ => ⟨_, by rw [toPy], by rw [PyData.canLay0], by rw [PyData.depth, dep]⟩
  | .int _, _ => ⟨_, by rw [toPy], by rw [PyData.canLay0], by rw [PyData.depth, dep]⟩
  | .str x, h => ⟨_, by rw [toPy], by rw [okD] at h; exact h, by rw [PyData.depth, dep]⟩
  | .lst xs, h => by
    rw [okD] at h
    obtain ⟨ps, e, c, d⟩ := okDs_py xs h
    exact ⟨.list ps, by rw [toPy, e]; rfl, by rw [PyData.canLay0]; exact c, by rw [PyData.depth, dep, d]⟩
  | .tup xs, h => by
    rw [okD] at h
    obtain ⟨ps, e, c, d⟩ := okDs_py xs h
    exact ⟨.tuple ps, by rw [toPy, e]; rfl, by rw [PyData.canLay0]; exact c, by rw [PyData.depth, dep, d]⟩
  | .dct _ _, h => by rw [okD] at h; cases h
  | .ins _ _ _, h => by rw [okD] at h; cases h
  | .ptr _, h => by rw [okD] at h; cases h
  | .scr _, h => by rw [okD] at h; cases h
  | .fn _ _, h => by rw [okD] at h; cases h
theorem okDs_py : ∀ (ds : List D), okDs ds = true → ∃ ps, toPys ds = some ps ∧ PyData.canLayAll0 ps = true ∧ PyData.depthAll ps = deps ds
  | [], _ => ⟨[], by rw [toPys], by rw [PyData.canLayAll0], by rw [PyData.depthAll, deps]⟩
  | x :: xs, h => by
    rw [okDs, Bool.and_eq_true] at h
    obtain ⟨p, e1, c1, d1⟩ := okD_py x h.1
    obtain ⟨ps, e2, c2, d2⟩ := okDs_py xs h.2
    exact ⟨p :: ps, by rw [toPys, e1, e2]; rfl, by rw [PyData.canLayAll0, c1, c2]; rfl, by rw [PyData.depthAll, deps, d1, d2]⟩
end
mutual
theorem okI_D : ∀ (d : D), okI d = true → okD d = true
  | .non, _ => by rw [okD]
  | .bl _, _ => by rw [okD]
  | .int _, h => by rw [okI] at h; cases h
  | .str x, h => by rw [okI] at h; rw [okD]; exact h
  | .lst xs, h => by rw [okI] at h; rw [okD]; exact okIs_D xs h
  | .tup xs, h => by rw [okI] at h; rw [okD]; exact okIs_D xs h
  | .dct _ _, h => by rw [okI] at h; cases h
  | .ins _ _ _, h => by rw [okI] at h; cases h
  | .ptr _, h => by rw [okI] at h; cases h
  | .scr _, h => by rw [okI] at h; cases h
  | .fn _ _, h => by rw [okI] at h; cases h
theorem okIs_D : ∀ (d : List D), okIs d = true → okDs d = true
  | [], _ => by rw [okDs]
  | x :: xs, h => by
    rw [okIs, Bool.and_eq_true] at h
    rw [okDs, okI_D x h.1, okIs_D xs h.2]; rfl
end
mutual
theorem okB_D : ∀ (d : D), okB d = true → okD d = true
  | .non, _ => by rw [okD]
  | .int _, _ => by rw [okD]
  | .bl _, h => by rw [okB] at h; cases h
  | .str x, h => by rw [okB] at h; rw [okD]; exact h
  | .lst xs, h => by rw [okB] at h; rw [okD]; exact okBs_D xs h
  | .tup xs, h => by rw [okB] at h; rw [okD]; exact okBs_D xs h
  | .dct _ _, h => by rw [okB] at h; cases h
  | .ins _ _ _, h => by rw [okB] at h; cases h
  | .ptr _, h => by rw [okB] at h; cases h
  | .scr _, h => by rw [okB] at h; cases h
  | .fn _ _, h => by rw [okB] at h; cases h
theorem okBs_D : ∀ (d : List D), okBs d = true → okDs d = true
  | [], _ => by rw [okDs]
  | x :: xs, h => by
    rw [okBs, Bool.and_eq_true] at h
    rw [okDs, okB_D x h.1, okBs_D xs h.2]; rfl
end
/-- the comparison's answer, by the two readings -/
def peq (d e : D) : Bool := match toPy d, toPy e with | some p, some q => PyData.eqv p q | _, _ => false
def peqs (d e : List D) : Bool := match toPys d, toPys e with | some p, some q => PyData.eqvAll p q | _, _ => false
theorem dEq_peqm {d e : D} (h1 : okD d = true) (h2 : okD e = true) (k : min (dep d) (dep e) ≤ 64) : dEq d e = some (peq d e) := by
  obtain ⟨p, e1, c1, d1⟩ := okD_py d h1
  obtain ⟨q, e2, c2, d2⟩ := okD_py e h2
  rcases dEq_cases d e with ⟨a, b, rfl, rfl, z⟩ | z
  · rw [z]; unfold peq; simp [toPy, PyData.eqv]
  · rw [z]
    unfold dEqP peq
    simp [e1, e2, c1, c2, show min p.depth q.depth ≤ 64 by omega]
theorem dEq_peq {d e : D} (h1 : okD d = true) (h2 : okD e = true) (k1 : dep d ≤ 64) (k2 : dep e ≤ 64) : dEq d e = some (peq d e) := dEq_peqm h1 h2 (by omega)
theorem peq_tup {xs ys : List D} (h1 : okDs xs = true) (h2 : okDs ys = true) : peq (.tup xs) (.tup ys) = peqs xs ys := by
  obtain ⟨p, e1, _, _⟩ := okDs_py xs h1
  obtain ⟨q, e2, _, _⟩ := okDs_py ys h2
  unfold peq peqs
  rw [toPy, toPy, e1, e2]
  simp [PyData.eqv]
theorem peq_lst {xs ys : List D} (h1 : okDs xs = true) (h2 : okDs ys = true) : peq (.lst xs) (.lst ys) = peqs xs ys := by
  obtain ⟨p, e1, _, _⟩ := okDs_py xs h1
  obtain ⟨q, e2, _, _⟩ := okDs_py ys h2
  unfold peq peqs
  rw [toPy, toPy, e1, e2]
  simp [PyData.eqv]
theorem peqs_nil : peqs [] [] = true := by unfold peqs; simp [toPys, PyData.eqvAll]
theorem peqs_cons {x y : D} {xs ys : List D} (h1 : okD x = true) (h2 : okD y = true) (k1 : okDs xs = true) (k2 : okDs ys = true) : peqs (x :: xs) (y :: ys) = (peq x y && peqs xs ys) := by
  obtain ⟨p, e1, _, _⟩ := okD_py x h1
  obtain ⟨q, e2, _, _⟩ := okD_py y h2
  obtain ⟨ps, e3, _, _⟩ := okDs_py xs k1
  obtain ⟨qs, e4, _, _⟩ := okDs_py ys k2
  unfold peq peqs
  rw [toPys, toPys, e1, e2, e3, e4]
  simp [PyData.eqvAll]
theorem peqs_nc {y : D} {ys : List D} (h2 : okD y = true) (k2 : okDs ys = true) : peqs [] (y :: ys) = false := by
  obtain ⟨q, e2, _, _⟩ := okD_py y h2
  obtain ⟨qs, e4, _, _⟩ := okDs_py ys k2
  unfold peqs
  rw [toPys, toPys, e2, e4]
  simp [PyData.eqvAll]
theorem peqs_cn {y : D} {ys : List D} (h2 : okD y = true) (k2 : okDs ys = true) : peqs (y :: ys) [] = false := by
  obtain ⟨q, e2, _, _⟩ := okD_py y h2
  obtain ⟨qs, e4, _, _⟩ := okDs_py ys k2
  unfold peqs
  rw [toPys, toPys, e2, e4]
  simp [PyData.eqvAll]
theorem peq_bl {a b : Bool} : peq (.bl a) (.bl b) = (a == b) := by unfold peq; simp [toPy, PyData.eqv]
theorem peq_int {a b : Int} : peq (.int a) (.int b) = (a == b) := by unfold peq; simp [toPy, PyData.eqv]
theorem peq_str {a b : Str} : peq (.str a) (.str b) = (a == b) := by unfold peq; simp [toPy, PyData.eqv]
theorem peq_lt {xs ys : List D} : peq (.lst xs) (.tup ys) = false := by
  simp only [peq, toPy]; cases toPys xs <;> cases toPys ys <;> simp [PyData.eqv]
theorem peq_tl {xs ys : List D} : peq (.tup xs) (.lst ys) = false := by
  simp only [peq, toPy]; cases toPys xs <;> cases toPys ys <;> simp [PyData.eqv]
def flatI : D → Bool | .non => true | .bl _ => true | .int _ => true | .str _ => true | _ => false
theorem peq_lf {xs : List D} {e : D} (h : flatI e = true) : peq (.lst xs) e = false := by
  cases e <;> first | (cases h; done) | (simp only [peq, toPy]; cases toPys xs <;> simp [PyData.eqv])
theorem peq_tf {xs : List D} {e : D} (h : flatI e = true) : peq (.tup xs) e = false := by
  cases e <;> first | (cases h; done) | (simp only [peq, toPy]; cases toPys xs <;> simp [PyData.eqv])
theorem peq_fl {xs : List D} {e : D} (h : flatI e = true) : peq e (.lst xs) = false := by
  cases e <;> first | (cases h; done) | (simp only [peq, toPy]; cases toPys xs <;> simp [PyData.eqv])
theorem peq_ft {xs : List D} {e : D} (h : flatI e = true) : peq e (.tup xs) = false := by
  cases e <;> first | (cases h; done) | (simp only [peq, toPy]; cases toPys xs <;> simp [PyData.eqv])
mutual
theorem peq_I : ∀ (d e : D), okI d = true → okI e = true → (peq d e = true ↔ d = e)
  | .int _, _, h, _ => by rw [okI] at h; cases h
  | .dct _ _, _, h, _ => by rw [okI] at h; cases h
  | .ins _ _ _, _, h, _ => by rw [okI] at h; cases h
  | .ptr _, _, h, _ => by rw [okI] at h; cases h
  | .scr _, _, h, _ => by rw [okI] at h; cases h
  | .fn _ _, _, h, _ => by rw [okI] at h; cases h
  | .lst xs, .lst ys, h, k => by
    rw [okI] at h k
    rw [peq_lst (okIs_D _ h) (okIs_D _ k), peqs_I xs ys h k]; simp
  | .tup xs, .tup ys, h, k => by
    rw [okI] at h k
    rw [peq_tup (okIs_D _ h) (okIs_D _ k), peqs_I xs ys h k]; simp
  | .lst xs, .tup ys, h, k => by rw [peq_lt]; simp
  | .tup xs, .lst ys, h, k => by rw [peq_tl]; simp
  | .lst xs, e, h, k => by
    cases e <;> first | (rw [okI] at k; cases k; done) | (rw [peq_lf rfl]; simp; done) | (rw [peq_lt]; simp; done) | (rw [okI] at h k; rw [peq_lst (okIs_D _ h) (okIs_D _ k), peqs_I xs _ h k]; simp)
  | .tup xs, e, h, k => by
    cases e <;> first | (rw [okI] at k; cases k; done) | (rw [peq_tf rfl]; simp; done) | (rw [peq_tl]; simp; done) | (rw [okI] at h k; rw [peq_tup (okIs_D _ h) (okIs_D _ k), peqs_I xs _ h k]; simp)
  | .non, e, h, k => by
    cases e <;> first | (rw [okI] at k; cases k; done) | (rw [peq_fl rfl]; simp; done) | (rw [peq_ft rfl]; simp; done) | (simp [peq, toPy, PyData.eqv])
  | .bl _, e, h, k => by
    cases e <;> first | (rw [okI] at k; cases k; done) | (rw [peq_fl rfl]; simp; done) | (rw [peq_ft rfl]; simp; done) | (simp [peq, toPy, PyData.eqv])
  | .str _, e, h, k => by
    cases e <;> first | (rw [okI] at k; cases k; done) | (rw [peq_fl rfl]; simp; done) | (rw [peq_ft rfl]; simp; done) | (simp [peq, toPy, PyData.eqv])
theorem peqs_I : ∀ (d e : List D), okIs d = true → okIs e = true → (peqs d e = true ↔ d = e)
  | [], [], _, _ => by rw [peqs_nil]; simp
  | [], y :: ys, _, k => by
    rw [okIs, Bool.and_eq_true] at k
    rw [peqs_nc (okI_D _ k.1) (okIs_D _ k.2)]; simp
  | y :: ys, [], k, _ => by
    rw [okIs, Bool.and_eq_true] at k
    rw [peqs_cn (okI_D _ k.1) (okIs_D _ k.2)]; simp
  | x :: xs, y :: ys, h, k => by
    rw [okIs, Bool.and_eq_true] at h k
    rw [peqs_cons (okI_D _ h.1) (okI_D _ k.1) (okIs_D _ h.2) (okIs_D _ k.2), Bool.and_eq_true, peq_I x y h.1 k.1, peqs_I xs ys h.2 k.2]
    simp
end
mutual
theorem peq_B : ∀ (d e : D), okB d = true → okB e = true → (peq d e = true ↔ d = e)
  | .bl _, _, h, _ => by rw [okB] at h; cases h
  | .dct _ _, _, h, _ => by rw [okB] at h; cases h
  | .ins _ _ _, _, h, _ => by rw [okB] at h; cases h
  | .ptr _, _, h, _ => by rw [okB] at h; cases h
  | .scr _, _, h, _ => by rw [okB] at h; cases h
  | .fn _ _, _, h, _ => by rw [okB] at h; cases h
  | .lst xs, .lst ys, h, k => by
    rw [okB] at h k
    rw [peq_lst (okBs_D _ h) (okBs_D _ k), peqs_B xs ys h k]; simp
  | .tup xs, .tup ys, h, k => by
    rw [okB] at h k
    rw [peq_tup (okBs_D _ h) (okBs_D _ k), peqs_B xs ys h k]; simp
  | .lst xs, .tup ys, h, k => by rw [peq_lt]; simp
  | .tup xs, .lst ys, h, k => by rw [peq_tl]; simp
  | .lst xs, e, h, k => by
    cases e <;> first | (rw [okB] at k; cases k; done) | (rw [peq_lf rfl]; simp; done) | (rw [peq_lt]; simp; done) | (rw [okB] at h k; rw [peq_lst (okBs_D _ h) (okBs_D _ k), peqs_B xs _ h k]; simp)
  | .tup xs, e, h, k => by
    cases e <;> first | (rw [okB] at k; cases k; done) | (rw [peq_tf rfl]; simp; done) | (rw [peq_tl]; simp; done) | (rw [okB] at h k; rw [peq_tup (okBs_D _ h) (okBs_D _ k), peqs_B xs _ h k]; simp)
  | .non, e, h, k => by
    cases e <;> first | (rw [okB] at k; cases k; done) | (rw [peq_fl rfl]; simp; done) | (rw [peq_ft rfl]; simp; done) | (simp [peq, toPy, PyData.eqv])
  | .int _, e, h, k => by
    cases e <;> first | (rw [okB] at k; cases k; done) | (rw [peq_fl rfl]; simp; done) | (rw [peq_ft rfl]; simp; done) | (simp [peq, toPy, PyData.eqv])
  | .str _, e, h, k => by
    cases e <;> first | (rw [okB] at k; cases k; done) | (rw [peq_fl rfl]; simp; done) | (rw [peq_ft rfl]; simp; done) | (simp [peq, toPy, PyData.eqv])
theorem peqs_B : ∀ (d e : List D), okBs d = true → okBs e = true → (peqs d e = true ↔ d = e)
  | [], [], _, _ => by rw [peqs_nil]; simp
  | [], y :: ys, _, k => by
    rw [okBs, Bool.and_eq_true] at k
    rw [peqs_nc (okB_D _ k.1) (okBs_D _ k.2)]; simp
  | y :: ys, [], k, _ => by
    rw [okBs, Bool.and_eq_true] at k
    rw [peqs_cn (okB_D _ k.1) (okBs_D _ k.2)]; simp
  | x :: xs, y :: ys, h, k => by
    rw [okBs, Bool.and_eq_true] at h k
    rw [peqs_cons (okB_D _ h.1) (okB_D _ k.1) (okBs_D _ h.2) (okBs_D _ k.2), Bool.and_eq_true, peq_B x y h.1 k.1, peqs_B xs ys h.2 k.2]
    simp
end

/-- == of two such data -/
theorem dEq_I {d e : D} [Decidable (d = e)] (h1 : okI d = true) (h2 : okI e = true) (k1 : dep d ≤ 64) (k2 : dep e ≤ 64) : dEq d e = some (decide (d = e)) := by
  rw [dEq_peq (okI_D _ h1) (okI_D _ h2) k1 k2]
  congr 1
  rw [Bool.eq_iff_iff, peq_I d e h1 h2, decide_eq_true_iff]
theorem dEq_Bm {d e : D} [Decidable (d = e)] (h1 : okB d = true) (h2 : okB e = true) (k : min (dep d) (dep e) ≤ 64) : dEq d e = some (decide (d = e)) := by
  rw [dEq_peqm (okB_D _ h1) (okB_D _ h2) k]
  congr 1
  rw [Bool.eq_iff_iff, peq_B d e h1 h2, decide_eq_true_iff]
theorem dEq_B {d e : D} [Decidable (d = e)] (h1 : okB d = true) (h2 : okB e = true) (k1 : dep d ≤ 64) (k2 : dep e ≤ 64) : dEq d e = some (decide (d = e)) := dEq_Bm h1 h2 (by omega)
end DL

namespace DL
open PySem L2
@[simp] theorem x_sRevO {i : Nat} {Γ : List Sl} {S : List D} : sRevO i Γ S = match Γ[i]? with
  | some (.own (.lst xs)) => .next (Γ.set i (.own (.lst xs.reverse))) S
  | _ => .stuck := Eq.trans rfl rfl
@[simp] theorem dAbs_int {i : Int} : dAbs (.int i) = some (.int (if i < 0 then -i else i)) := Eq.trans rfl rfl
@[simp] theorem dMax_int {i j : Int} : dMax (.int i) (.int j) = some (.int (if j > i then j else i)) := Eq.trans rfl rfl
@[simp] theorem dMin_int {i j : Int} : dMin (.int i) (.int j) = some (.int (if j < i then j else i)) := Eq.trans rfl rfl
theorem asInts_map (l : List Int) : asInts (l.map D.int) = some l := by
  induction l with
  | nil => rfl
  | cons x r ih => rw [List.map_cons, asInts, ih]; rfl
theorem dSum_map (l : List Int) : dSum (.lst (l.map D.int)) = some (.int l.sum) := by
  show (asInts (l.map D.int)).map (fun l => D.int l.sum) = _; rw [asInts_map]; rfl
@[simp] theorem x_eChain {f g : D → D → Option D} {a b c : De} {Γ : List Sl} {S : List D} : eChain f g a b c Γ S = (a Γ S).bind fun x S1 => (b Γ S1).bind fun y S2 => (ofO (f (deref S2 x) (deref S2 y)) S2).bind fun k S3 => match asB k with
  | some true => (c Γ S3).bind fun z S4 => ofO (g (deref S4 y) (deref S4 z)) S4
  | some false => .ok (.bl false) S3
  | none => .stuck := Eq.trans rfl rfl
@[simp] theorem dEq_str {a b : Str} : dEq (.str a) (.str b) = some (a == b) := Eq.trans rfl rfl
@[simp] theorem cEq_str {a b : Str} : cEq (.str a) (.str b) = some (.bl (a == b)) := Eq.trans rfl rfl
@[simp] theorem cNe_str {a b : Str} : cNe (.str a) (.str b) = some (.bl (!(a == b))) := Eq.trans rfl rfl
theorem dEq_int' (a b : Int) : dEq (.int a) (.int b) = some (a == b) := by
  rw [dEq_peq (by rw [okD]) (by rw [okD]) (by rw [dep]; decide) (by rw [dep]; decide), peq_int]
theorem dEq_bl' (a b : Bool) : dEq (.bl a) (.bl b) = some (a == b) := by
  rw [dEq_peq (by rw [okD]) (by rw [okD]) (by rw [dep]; decide) (by rw [dep]; decide), peq_bl]
@[simp] theorem cEq_i2 (a b : Int) : cEq (.int a) (.int b) = some (.bl (a == b)) := by unfold cEq; rw [dEq_int']; rfl
@[simp] theorem cNe_i2 (a b : Int) : cNe (.int a) (.int b) = some (.bl (a != b)) := by unfold cNe; rw [dEq_int']; rfl
@[simp] theorem cEq_b2 (a b : Bool) : cEq (.bl a) (.bl b) = some (.bl (a == b)) := by unfold cEq; rw [dEq_bl']; rfl
@[simp] theorem cNe_b2 (a b : Bool) : cNe (.bl a) (.bl b) = some (.bl (a != b)) := by unfold cNe; rw [dEq_bl']; rfl
/-- a place drawn -/
theorem pick {xs : List D} {r : Int} (h0 : 0 ≤ r) (h1 : r < xs.length) : ∃ d ∈ xs, atI xs r = some d := by
  obtain ⟨k, rfl⟩ : ∃ k : Nat, r = (k : Int) := ⟨r.toNat, by omega⟩
  have hk : k < xs.length := by omega
  exact ⟨xs[k], List.getElem_mem hk, by rw [atI_get?, List.getElem?_eq_getElem hk]⟩
theorem pickS {xs : List Str} {r : Int} (h0 : 0 ≤ r) (h1 : r < xs.length) : ∃ x ∈ xs, atI (xs.map D.str) r = some (.str x) := by
  obtain ⟨d, hd, e⟩ := pick (xs := xs.map D.str) h0 (by rw [List.length_map]; exact h1)
  obtain ⟨x, hx, rfl⟩ := List.mem_map.mp hd
  exact ⟨x, hx, e⟩
theorem pickI {xs : List Int} {r : Int} (h0 : 0 ≤ r) (h1 : r < xs.length) : ∃ x ∈ xs, atI (xs.map D.int) r = some (.int x) := by
  obtain ⟨d, hd, e⟩ := pick (xs := xs.map D.int) h0 (by rw [List.length_map]; exact h1)
  obtain ⟨x, hx, rfl⟩ := List.mem_map.mp hd
  exact ⟨x, hx, e⟩
theorem dEq_same {d : D} (h : okB d = true) (k : dep d ≤ 64) : dEq d d = some true := by
  haveI : Decidable (d = d) := .isTrue rfl
  rw [dEq_B h h k k]
  exact congrArg some (decide_eq_true rfl)
end DL

namespace DL
open PySem L2
/-! ### messages as data -/
inductive Ky where
  | i (n : Int) | s (x : Str)
def eK : Ky → D
  | .i n => .int n
  | .s x => .str x
mutual
inductive Nd where
  | text (x : Str) | shw (n : Str) | num
  | sel (n : Str) (cs : List Cs) (o : List Nd)
  | plu (n : Str) (f : Int) (cs : List Cs) (o : List Nd)
inductive Cs where
  | mk (k : Ky) (m : List Nd)
end
mutual
def eN : Nd → D
  | .text x => .tup [.str "text", .str x]
  | .shw n => .tup [.str "show", .str n]
  | .num => .tup [.str "number"]
  | .sel n cs o => .tup [.str "select", .str n, .lst (eCs cs), .lst (eL o)]
  | .plu n f cs o => .tup [.str "plural", .str n, .int f, .lst (eCs cs), .lst (eL o)]
def eL : List Nd → List D
  | [] => []
  | n :: r => eN n :: eL r
def eC1 : Cs → D
  | .mk k m => .tup [eK k, .lst (eL m)]
def eCs : List Cs → List D
  | [] => []
  | c :: r => eC1 c :: eCs r
end
theorem eL_map (m : List Nd) : eL m = m.map eN := by
  induction m with
  | nil => rw [eL]; rfl
  | cons n r ih => rw [eL, ih]; rfl
theorem eCs_map (m : List Cs) : eCs m = m.map eC1 := by
  induction m with
  | nil => rw [eCs]; rfl
  | cons n r ih => rw [eCs, ih]; rfl
@[simp] theorem eL_nil : eL [] = [] := by rw [eL]
@[simp] theorem eCs_nil : eCs [] = [] := by rw [eCs]
@[simp] theorem eL_len (m : List Nd) : (eL m).length = m.length := by rw [eL_map, List.length_map]
@[simp] theorem eCs_len (m : List Cs) : (eCs m).length = m.length := by rw [eCs_map, List.length_map]
theorem eL_app (a b : List Nd) : eL (a ++ b) = eL a ++ eL b := by simp only [eL_map, List.map_append]
theorem eCs_app (a b : List Cs) : eCs (a ++ b) = eCs a ++ eCs b := by simp only [eCs_map, List.map_append]
theorem eCs_rev (a : List Cs) : (eCs a).reverse = eCs a.reverse := by simp only [eCs_map, List.map_reverse]
theorem eL_one (n : Nd) : eL [n] = [eN n] := by rw [eL, eL]
theorem eCs_one (n : Cs) : eCs [n] = [eC1 n] := by rw [eCs, eCs]
/-! ### what a message must be -/
def sOk (x : Str) : Bool := PyData.canLay0 (.str x)
def iOk (i : Int) : Bool := decide (i.natAbs < 2 ^ 64)
def kOk : Ky → Bool
  | .i n => iOk n
  | .s x => sOk x
mutual
def nOk : Nd → Bool
  | .text x => sOk x
  | .shw n => sOk n
  | .num => true
  | .sel n cs o => sOk n && csOk cs && lOk o
  | .plu n f cs o => sOk n && iOk f && csOk cs && lOk o
def lOk : List Nd → Bool
  | [] => true
  | n :: r => nOk n && lOk r
def cOk : Cs → Bool
  | .mk k m => kOk k && lOk m
def csOk : List Cs → Bool
  | [] => true
  | c :: r => cOk c && csOk r
end
/-! how deep -/
mutual
def nH : Nd → Nat
  | .sel _ cs o => max (csH cs) (lH o) + 1
  | .plu _ _ cs o => max (csH cs) (lH o) + 1
  | .text _ => 0
  | .shw _ => 0
  | .num => 0
def lH : List Nd → Nat
  | [] => 0
  | n :: r => max (nH n) (lH r)
def cH : Cs → Nat
  | .mk _ m => lH m
def csH : List Cs → Nat
  | [] => 0
  | c :: r => max (cH c) (csH r)
end
/-! how great -/
def kW : Ky → Nat
  | .i n => (toString n : Str).length
  | .s x => 10 * x.length + 2
mutual
def nW : Nd → Nat
  | .text x => 10 * x.length + 40
  | .shw n => 10 * n.length + 40
  | .num => 40
  | .sel n cs o => 10 * n.length + csW cs + lW o + 60
  | .plu n f cs o => 10 * n.length + (toString f : Str).length + csW cs + lW o + 60
def lW : List Nd → Nat
  | [] => 0
  | n :: r => nW n + lW r
def cW : Cs → Nat
  | .mk k m => kW k + lW m + 20
def csW : List Cs → Nat
  | [] => 0
  | c :: r => cW c + csW r
end
theorem lOk_app (a b : List Nd) : lOk (a ++ b) = (lOk a && lOk b) := by
  induction a with
  | nil => simp [lOk]
  | cons n r ih => rw [List.cons_append, lOk, lOk, ih, Bool.and_assoc]
theorem csOk_app (a b : List Cs) : csOk (a ++ b) = (csOk a && csOk b) := by
  induction a with
  | nil => simp [csOk]
  | cons n r ih => rw [List.cons_append, csOk, csOk, ih, Bool.and_assoc]
theorem lH_app (a b : List Nd) : lH (a ++ b) = max (lH a) (lH b) := by
  induction a with
  | nil => simp [lH]
  | cons n r ih => rw [List.cons_append, lH, lH, ih, Nat.max_assoc]
theorem csH_app (a b : List Cs) : csH (a ++ b) = max (csH a) (csH b) := by
  induction a with
  | nil => simp [csH]
  | cons n r ih => rw [List.cons_append, csH, csH, ih, Nat.max_assoc]
theorem lW_app (a b : List Nd) : lW (a ++ b) = lW a + lW b := by
  induction a with
  | nil => simp [lW]
  | cons n r ih => rw [List.cons_append, lW, lW, ih, Nat.add_assoc]
theorem csW_app (a b : List Cs) : csW (a ++ b) = csW a + csW b := by
  induction a with
  | nil => simp [csW]
  | cons n r ih => rw [List.cons_append, csW, csW, ih, Nat.add_assoc]
theorem nW_pos (n : Nd) : 40 ≤ nW n := by cases n <;> rw [nW] <;> omega
theorem cW_pos (n : Cs) : 20 ≤ cW n := by cases n; rw [cW]; omega
theorem lW_len (m : List Nd) : 40 * m.length ≤ lW m := by
  induction m with
  | nil => simp
  | cons n r ih => rw [lW, List.length_cons]; have := nW_pos n; omega
theorem csW_len (m : List Cs) : 20 * m.length ≤ csW m := by
  induction m with
  | nil => simp
  | cons n r ih => rw [csW, List.length_cons]; have := cW_pos n; omega
theorem kOk_B (k : Ky) (h : kOk k = true) : okB (eK k) = true := by
  cases k with
  | i n => rw [eK, okB]
  | s x => rw [eK, okB]; exact h
theorem kDep (k : Ky) : dep (eK k) = 0 := by cases k <;> rw [eK, dep]
theorem text_ok : PyData.canLay0 (.str "text") = true := by decide +kernel
theorem show_ok : PyData.canLay0 (.str "show") = true := by decide +kernel
theorem number_ok : PyData.canLay0 (.str "number") = true := by decide +kernel
theorem select_ok : PyData.canLay0 (.str "select") = true := by decide +kernel
theorem plural_ok : PyData.canLay0 (.str "plural") = true := by decide +kernel
mutual
theorem nOk_B : ∀ n : Nd, nOk n = true → okB (eN n) = true
  | .text x, h => by rw [nOk] at h; simp [eN, okB, okBs, text_ok]; exact h
  | .shw x, h => by rw [nOk] at h; simp [eN, okB, okBs, show_ok]; exact h
  | .num, _ => by simp [eN, okB, okBs, number_ok]
  | .sel n cs o, h => by
    rw [nOk, Bool.and_eq_true, Bool.and_eq_true] at h
    simp [eN, okB, okBs, select_ok, csOk_B cs h.1.2, lOk_B o h.2]; exact h.1.1
  | .plu n f cs o, h => by
    rw [nOk, Bool.and_eq_true, Bool.and_eq_true, Bool.and_eq_true] at h
    simp [eN, okB, okBs, plural_ok, csOk_B cs h.1.2, lOk_B o h.2]; exact h.1.1.1
theorem lOk_B : ∀ m : List Nd, lOk m = true → okBs (eL m) = true
  | [], _ => by rw [eL, okBs]
  | n :: r, h => by
    rw [lOk, Bool.and_eq_true] at h
    rw [eL, okBs, nOk_B n h.1, lOk_B r h.2]; rfl
theorem cOk_B : ∀ c : Cs, cOk c = true → okB (eC1 c) = true
  | .mk k m, h => by
    rw [cOk, Bool.and_eq_true] at h
    simp [eC1, okB, okBs, kOk_B k h.1, lOk_B m h.2]
theorem csOk_B : ∀ m : List Cs, csOk m = true → okBs (eCs m) = true
  | [], _ => by rw [eCs, okBs]
  | n :: r, h => by
    rw [csOk, Bool.and_eq_true] at h
    rw [eCs, okBs, cOk_B n h.1, csOk_B r h.2]; rfl
end
mutual
theorem nDep : ∀ n : Nd, dep (eN n) ≤ 4 * nH n + 1
  | .text x => by simp [eN, dep, deps]
  | .shw x => by simp [eN, dep, deps]
  | .num => by simp [eN, dep, deps]
  | .sel n cs o => by
    have h1 := csDep cs
    have h2 := lDep o
    simp only [eN, dep, deps, nH]
    omega
  | .plu n f cs o => by
    have h1 := csDep cs
    have h2 := lDep o
    simp only [eN, dep, deps, nH]
    omega
theorem lDep : ∀ m : List Nd, deps (eL m) ≤ 4 * lH m + 1
  | [] => by simp [eL, deps]
  | n :: r => by
    have h1 := nDep n
    have h2 := lDep r
    simp only [eL, deps, lH]
    omega
theorem cDep : ∀ c : Cs, dep (eC1 c) ≤ 4 * cH c + 3
  | .mk k m => by
    have h2 := lDep m
    have := kDep k
    simp only [eC1, dep, deps, cH]
    omega
theorem csDep : ∀ m : List Cs, deps (eCs m) ≤ 4 * csH m + 3
  | [] => by simp [eCs, deps]
  | n :: r => by
    have h1 := cDep n
    have h2 := csDep r
    simp only [eCs, deps, csH]
    omega
end
end DL

namespace DL
open PySem L2
/-! ### how long a repr is -/
mutual
def shW : D → Nat
  | .non => 4
  | .bl _ => 5
  | .int i => (toString i : Str).length
  | .str x => 10 * x.length + 2
  | .lst xs => shWs xs + 2
  | .tup xs => shWs xs + 2
  | .dct _ _ => 0
  | .ins _ _ _ => 0
  | .ptr _ => 0
  | .scr _ => 0
  | .fn _ _ => 0
def shWs : List D → Nat
  | [] => 0
  | x :: xs => shW x + 2 + shWs xs
end
mutual
def okR : D → Bool
  | .non => true
  | .bl _ => true
  | .int i => decide (i.natAbs < 2 ^ 64)
  | .str x => PyData.canLay0 (.str x)
  | .lst xs => okRs xs
  | .tup xs => okRs xs
  | .dct _ _ => false
  | .ins _ _ _ => false
  | .ptr _ => false
  | .scr _ => false
  | .fn _ _ => false
def okRs : List D → Bool
  | [] => true
  | x :: xs => okR x && okRs xs
end
def tot : List Str → Nat
  | [] => 0
  | t :: r => t.length + 2 + tot r
theorem textFrom_tot : ∀ (ts : List Str) (k : Nat) (acc : Str), (textFrom k acc ts).length ≤ acc.length + tot ts
  | [], _, acc => by rw [textFrom, tot]; omega
  | t :: r, k, acc => by
    rw [textFrom, tot]
    have ih := textFrom_tot r (k + 1) (acc ++ (if k > 0 then ", " else "" : String) ++ t)
    have e : (acc ++ ((if k > 0 then ", " else "" : String) : Str) ++ t).length = acc.length + ((if k > 0 then ", " else "" : String) : Str).length + t.length := by
      rw [strLen_append, strLen_append]
    have e2 : (((if k > 0 then ", " else "" : String) : Str)).length ≤ 2 := by split <;> decide
    omega
theorem join_tot : ∀ (ts : List Str), (Str.join ", " ts).length ≤ tot ts
  | [] => by show (0 : Nat) ≤ _; exact Nat.zero_le _
  | [t] => by
    have e : Str.join ", " [t] = t := rfl
    rw [e, tot, tot]; omega
  | t :: u :: r => by
    have ih := join_tot (u :: r)
    have e : Str.join ", " (t :: u :: r) = t ++ ", " ++ Str.join ", " (u :: r) := rfl
    rw [e, strLen_append, strLen_append, tot]
    have e2 : ((", " : String) : Str).length = 2 := rfl
    omega
theorem list_tot (ts : List Str) : (listText ts).length ≤ tot ts + 2 := by
  unfold listText
  rw [strLen_append]
  have h := textFrom_tot ts 0 "["
  have e1 : (("[" : String) : Str).length = 1 := rfl
  have e2 : (("]" : String) : Str).length = 1 := rfl
  omega
theorem tuple_tot (ts : List Str) : (tupleText ts).length ≤ tot ts + 2 := by
  unfold tupleText
  rw [strLen_append, strLen_append]
  have e1 : (("(" : String) : Str).length = 1 := rfl
  rw [e1]
  match ts with
  | [] => decide
  | [t] =>
    have e : Str.join ", " [t] = t := rfl
    have e2 : (((if [t].length == 1 then ",)" else ")" : String) : Str)).length = 2 := rfl
    rw [e, e2, tot, tot]; omega
  | t :: u :: r =>
    have h := join_tot (t :: u :: r)
    have e2 : (((if (t :: u :: r).length == 1 then ",)" else ")" : String) : Str)).length ≤ 1 := by
      have : ((t :: u :: r).length == 1) = false := by simp
      rw [this]; decide
    omega
theorem log_lt {n : Nat} (h : n < 2 ^ 64) : n.log2 < 1920 := by
  by_cases z : n = 0
  · subst z; decide
  · exact Nat.lt_of_lt_of_le ((Nat.log2_lt z).mpr h) (by decide)
theorem str_sh {x : Str} (h : PyData.canLay0 (.str x) = true) : (reprText x).length ≤ 10 * x.length + 2 := by
  refine _root_.PySem.StrLaws.reprText_len x fun c hc => ?_
  rw [PyData.canLay0] at h
  have h2 : x.cps.all (fun k => decide (k < 0x110000)) = true := h
  rw [← Array.all_toList, List.all_eq_true] at h2
  have := h2 c hc
  rw [decide_eq_true_iff] at this
  exact Nat.lt_trans this (by decide)
mutual
theorem okR_py : ∀ d : D, okR d = true → ∃ p, toPy d = some p ∧ p.showable = true ∧ p.hasDict = false ∧ p.depth = dep d ∧ p.shown.length ≤ shW d
  | .non, _ => ⟨.none, by rw [toPy], by rw [PyData.showable], by rw [PyData.hasDict], by rw [PyData.depth, dep], by rw [PyData.shown, shW]; decide⟩
  | .bl b, _ => ⟨.bool b, by rw [toPy], by rw [PyData.showable], by rw [PyData.hasDict], by rw [PyData.depth, dep], by rw [PyData.shown, shW]; cases b <;> decide⟩
  | .int i, h => ⟨.int i, by rw [toPy], by rw [okR, decide_eq_true_iff] at h; rw [PyData.showable, decide_eq_true_iff]; exact log_lt h, by rw [PyData.hasDict], by rw [PyData.depth, dep], by rw [PyData.shown, shW]; exact Nat.le_refl _⟩
  | .str x, h => ⟨.str x, by rw [toPy], by rw [PyData.showable], by rw [PyData.hasDict], by rw [PyData.depth, dep], by rw [okR] at h; rw [PyData.shown, shW]; exact str_sh h⟩
  | .lst xs, h => by
    rw [okR] at h
    obtain ⟨ps, e, a, b, c, d⟩ := okRs_py xs h
    exact ⟨.list ps, by rw [toPy, e]; rfl, by rw [PyData.showable]; exact a, by rw [PyData.hasDict]; exact b, by rw [PyData.depth, dep, c], by rw [PyData.shown, shW]; exact Nat.le_trans (list_tot _) (by omega)⟩
  | .tup xs, h => by
    rw [okR] at h
    obtain ⟨ps, e, a, b, c, d⟩ := okRs_py xs h
    exact ⟨.tuple ps, by rw [toPy, e]; rfl, by rw [PyData.showable]; exact a, by rw [PyData.hasDict]; exact b, by rw [PyData.depth, dep, c], by rw [PyData.shown, shW]; exact Nat.le_trans (tuple_tot _) (by omega)⟩
  | .dct _ _, h => by rw [okR] at h; cases h
  | .ins _ _ _, h => by rw [okR] at h; cases h
  | .ptr _, h => by rw [okR] at h; cases h
  | .scr _, h => by rw [okR] at h; cases h
  | .fn _ _, h => by rw [okR] at h; cases h
theorem okRs_py : ∀ ds : List D, okRs ds = true → ∃ ps, toPys ds = some ps ∧ PyData.showableAll ps = true ∧ PyData.hasDictAll ps = false ∧ PyData.depthAll ps = deps ds ∧ tot (PyData.shownAll ps) ≤ shWs ds
  | [], _ => ⟨[], by rw [toPys], by rw [PyData.showableAll], by rw [PyData.hasDictAll], by rw [PyData.depthAll, deps], by rw [PyData.shownAll, tot]; exact Nat.zero_le _⟩
  | x :: xs, h => by
    rw [okRs, Bool.and_eq_true] at h
    obtain ⟨p, e1, a1, b1, c1, d1⟩ := okR_py x h.1
    obtain ⟨ps, e2, a2, b2, c2, d2⟩ := okRs_py xs h.2
    exact ⟨p :: ps, by rw [toPys, e1, e2]; rfl, by rw [PyData.showableAll, a1, a2]; rfl, by rw [PyData.hasDictAll, b1, b2]; rfl, by rw [PyData.depthAll, deps, c1, c2], by rw [PyData.shownAll, tot, shWs]; omega⟩
end
theorem dRepr_ok {d : D} (sq : isSq d = true) (h : okR d = true) (hd : dep d ≤ 180) (hw : shW d ≤ sizeLine) : ∃ t, dRepr d = some (.str t) := by
  obtain ⟨p, e, a, b, c, l⟩ := okR_py d h
  refine ⟨p.shown, ?_⟩
  unfold dRepr
  rw [e]
  simp only
  rw [if_pos ⟨sq, a, b, by omega, by omega⟩]
/-! messages -/
theorem kOk_R (k : Ky) (h : kOk k = true) : okR (eK k) = true := by
  cases k with
  | i n => rw [eK, okR]; exact h
  | s x => rw [eK, okR]; exact h
mutual
theorem nOk_R : ∀ n : Nd, nOk n = true → okR (eN n) = true
  | .text x, h => by rw [nOk] at h; simp [eN, okR, okRs, text_ok]; exact h
  | .shw x, h => by rw [nOk] at h; simp [eN, okR, okRs, show_ok]; exact h
  | .num, _ => by simp [eN, okR, okRs, number_ok]
  | .sel n cs o, h => by
    rw [nOk, Bool.and_eq_true, Bool.and_eq_true] at h
    simp [eN, okR, okRs, select_ok, csOk_R cs h.1.2, lOk_R o h.2]; exact h.1.1
  | .plu n f cs o, h => by
    rw [nOk, Bool.and_eq_true, Bool.and_eq_true, Bool.and_eq_true] at h
    have hf := h.1.1.2
    unfold iOk at hf
    rw [eN, okR, okRs, okRs, okRs, okRs, okRs, okRs, okR, okR, okR, okR, okR, plural_ok, hf, csOk_R cs h.1.2, lOk_R o h.2]
    show (true && (PyData.canLay0 (.str n) && _)) = true
    rw [show PyData.canLay0 (.str n) = true from h.1.1.1]; rfl
theorem lOk_R : ∀ m : List Nd, lOk m = true → okRs (eL m) = true
  | [], _ => by rw [eL, okRs]
  | n :: r, h => by
    rw [lOk, Bool.and_eq_true] at h
    rw [eL, okRs, nOk_R n h.1, lOk_R r h.2]; rfl
theorem cOk_R : ∀ c : Cs, cOk c = true → okR (eC1 c) = true
  | .mk k m, h => by
    rw [cOk, Bool.and_eq_true] at h
    simp [eC1, okR, okRs, kOk_R k h.1, lOk_R m h.2]
theorem csOk_R : ∀ m : List Cs, csOk m = true → okRs (eCs m) = true
  | [], _ => by rw [eCs, okRs]
  | n :: r, h => by
    rw [csOk, Bool.and_eq_true] at h
    rw [eCs, okRs, cOk_R n h.1, csOk_R r h.2]; rfl
end
theorem kW_sh (k : Ky) : shW (eK k) = kW k := by cases k <;> rw [eK, shW, kW]
theorem l_text : ("text" : Str).length = 4 := by decide +kernel
theorem l_show : ("show" : Str).length = 4 := by decide +kernel
theorem l_number : ("number" : Str).length = 6 := by decide +kernel
theorem l_select : ("select" : Str).length = 6 := by decide +kernel
theorem l_plural : ("plural" : Str).length = 6 := by decide +kernel
mutual
theorem nW_sh : ∀ n : Nd, shW (eN n) + 2 ≤ 3 * nW n
  | .text x => by simp only [eN, shW, shWs, nW, l_text]; omega
  | .shw x => by simp only [eN, shW, shWs, nW, l_show]; omega
  | .num => by simp only [eN, shW, shWs, nW, l_number]; omega
  | .sel n cs o => by
    have h1 := csW_sh cs
    have h2 := lW_sh o
    simp only [eN, shW, shWs, nW, l_select]; omega
  | .plu n f cs o => by
    have h1 := csW_sh cs
    have h2 := lW_sh o
    simp only [eN, shW, shWs, nW, l_plural]; omega
theorem lW_sh : ∀ m : List Nd, shWs (eL m) ≤ 3 * lW m
  | [] => by simp [eL, shWs]
  | n :: r => by
    have h1 := nW_sh n
    have h2 := lW_sh r
    have := nW_pos n
    simp only [eL, shWs, lW]; omega
theorem cW_sh : ∀ c : Cs, shW (eC1 c) + 2 ≤ 3 * cW c
  | .mk k m => by
    have h2 := lW_sh m
    have := kW_sh k
    simp only [eC1, shW, shWs, cW]; omega
theorem csW_sh : ∀ m : List Cs, shWs (eCs m) ≤ 3 * csW m
  | [] => by simp [eCs, shWs]
  | n :: r => by
    have h1 := cW_sh n
    have h2 := csW_sh r
    simp only [eCs, shWs, csW]; omega
end
theorem msg_repr {m : List Nd} (h : lOk m = true) (hh : lH m ≤ 10) (hw : lW m ≤ 5000000) : ∃ t, dRepr (.lst (eL m)) = some (.str t) := by
  refine dRepr_ok rfl (by rw [okR]; exact lOk_R m h) ?_ ?_
  · have := lDep m
    rw [dep]; omega
  · have := lW_sh m
    rw [shW]; show _ ≤ 16777216; omega
theorem msg_same {m : List Nd} (h : lOk m = true) (hh : lH m ≤ 10) : dEq (.lst (eL m)) (.lst (eL m)) = some true := by
  refine dEq_same (by rw [okB]; exact lOk_B m h) ?_
  have := lDep m
  rw [dep]; omega
end DL

namespace DL
open PySem L2
/-! ### messages in plain form -/
def isT : Nd → Bool
  | .text _ => true
  | _ => false
def lastT (m : List Nd) : Bool := match m.getLast? with
  | some n => isT n
  | none => false
/-- one node behind what was found -/
def plS (acc : List Nd) (n : Nd) (n' : Nd) : List Nd := match n with
  | .text x => match acc.getLast? with
    | some (.text y) => acc.dropLast ++ [.text (y ++ x)]
    | _ => if x = "" then acc else acc ++ [.text x]
  | _ => acc ++ [n']
mutual
def plN : Nd → Nd
  | .text x => .text x
  | .shw n => .shw n
  | .num => .num
  | .sel n cs o => .sel n (plCs cs) (plA [] o)
  | .plu n f cs o => .plu n f (plCs cs) (plA [] o)
def plA : List Nd → List Nd → List Nd
  | acc, [] => acc
  | acc, n :: r => plA (plS acc n (plN n)) r
def plC : Cs → Cs
  | .mk k m => .mk k (plA [] m)
def plCs : List Cs → List Cs
  | [] => []
  | c :: r => plC c :: plCs r
end
theorem plCs_map (m : List Cs) : plCs m = m.map plC := by
  induction m with
  | nil => rw [plCs]; rfl
  | cons n r ih => rw [plCs, ih]; rfl
theorem plA_app (acc a b : List Nd) : plA acc (a ++ b) = plA (plA acc a) b := by
  induction a generalizing acc with
  | nil => rw [List.nil_append, plA]
  | cons n r ih => rw [List.cons_append, plA, plA, ih]
/-! the plain ones -/
mutual
def gN : Nd → Prop
  | .text x => x ≠ ""
  | .shw _ => True
  | .num => True
  | .sel _ cs o => gCs cs ∧ gL o
  | .plu _ _ cs o => gCs cs ∧ gL o
def gL : List Nd → Prop
  | [] => True
  | n :: r => gN n ∧ gL r ∧ (isT n = true → ∀ y, r.head? = some y → isT y = false)
def gC : Cs → Prop
  | .mk _ m => gL m
def gCs : List Cs → Prop
  | [] => True
  | c :: r => gC c ∧ gCs r
end
theorem gL_snoc {m : List Nd} {n : Nd} (h : gL m) (hn : gN n) (hl : lastT m = true → isT n = false) : gL (m ++ [n]) := by
  induction m with
  | nil => rw [List.nil_append, gL]; exact ⟨hn, by rw [gL]; trivial, fun _ y z => by cases z⟩
  | cons x r ih =>
    rw [gL] at h
    obtain ⟨h1, h2, h3⟩ := h
    rw [List.cons_append, gL]
    refine ⟨h1, ih h2 fun z => hl ?_, fun z y hy => ?_⟩
    · cases r with
      | nil => exact (show false = true from z) |> fun w => by cases w
      | cons a b => exact z
    · cases r with
      | nil =>
        cases hy
        exact hl z
      | cons a b => exact h3 z y hy
theorem gCs_snoc {m : List Cs} {c : Cs} (h : gCs m) (hc : gC c) : gCs (m ++ [c]) := by
  induction m with
  | nil => rw [List.nil_append, gCs]; exact ⟨hc, by rw [gCs]; trivial⟩
  | cons x r ih => rw [gCs] at h; rw [List.cons_append, gCs]; exact ⟨h.1, ih h.2⟩
theorem gCs_rev {m : List Cs} (h : gCs m) : gCs m.reverse := by
  induction m with
  | nil => exact h
  | cons x r ih => rw [gCs] at h; rw [List.reverse_cons]; exact gCs_snoc (ih h.2) h.1
theorem gL_left {a b : List Nd} (h : gL (a ++ b)) : gL a := by
  induction a with
  | nil => rw [gL]; trivial
  | cons x r ih =>
    rw [List.cons_append, gL] at h
    obtain ⟨h1, h2, h3⟩ := h
    rw [gL]
    exact ⟨h1, ih h2, fun z y hy => h3 z y (by cases r with | nil => cases hy | cons a b => exact hy)⟩
theorem gL_mid {a b : List Nd} {n : Nd} (h : gL (a ++ n :: b)) : gN n ∧ (lastT a = true → isT n = false) := by
  induction a with
  | nil => rw [List.nil_append, gL] at h; exact ⟨h.1, fun z => by cases z⟩
  | cons x r ih =>
    rw [List.cons_append, gL] at h
    obtain ⟨h1, h2, h3⟩ := h
    refine ⟨(ih h2).1, fun z => ?_⟩
    cases r with
    | nil => exact h3 z n rfl
    | cons a b => exact (ih h2).2 z
theorem lastT_snoc (a : List Nd) (n : Nd) : lastT (a ++ [n]) = isT n := by unfold lastT; rw [List.getLast?_concat]
theorem str_app_nil (y : Str) : y ++ ("" : Str) = y := by
  show Str.append y "" = y
  obtain ⟨a⟩ := y
  show (⟨a ++ #[]⟩ : Str) = ⟨a⟩
  rw [Array.append_empty]
theorem plS_plain {acc : List Nd} {n : Nd} (hn : gN n) (hl : lastT acc = true → isT n = false) : plS acc n n = acc ++ [n] := by
  cases n with
  | text x =>
    rw [gN] at hn
    unfold plS
    cases q : acc.getLast? with
    | none => simp only; rw [if_neg hn]
    | some l =>
      cases l with
      | text y => exact absurd (hl (by unfold lastT; rw [q]; rfl)) (by simp [isT])
      | _ => simp only; rw [if_neg hn]
  | _ => rfl
/-- an empty text makes no difference -/
theorem plS_nil (n n' : Nd) : plS [] n n' = match n with | .text x => if x = "" then [] else [.text x] | _ => [n'] := by
  cases n <;> rfl
theorem plS_concat (a : List Nd) (l n n' : Nd) : plS (a ++ [l]) n n' = match n, l with
    | .text x, .text y => a ++ [.text (y ++ x)]
    | .text x, _ => if x = "" then a ++ [l] else a ++ [l] ++ [.text x]
    | _, _ => a ++ [l] ++ [n'] := by
  cases n <;> try rfl
  unfold plS
  rw [List.getLast?_concat]
  cases l <;> simp
theorem plS_empty (acc : List Nd) (n' : Nd) : plS acc (.text "") n' = acc := by
  rcases List.eq_nil_or_concat acc with rfl | ⟨a, l, rfl⟩
  · rfl
  · rw [List.concat_eq_append, plS_concat]
    cases l <;> simp [str_app_nil]
mutual
theorem plN_same : ∀ n : Nd, gN n → plN n = n
  | .text x, _ => by rw [plN]
  | .shw n, _ => by rw [plN]
  | .num, _ => by rw [plN]
  | .sel n cs o, h => by
    rw [gN] at h
    rw [plN, plCs_same cs h.1, plA_same [] o (by rw [List.nil_append]; exact h.2)]; rfl
  | .plu n f cs o, h => by
    rw [gN] at h
    rw [plN, plCs_same cs h.1, plA_same [] o (by rw [List.nil_append]; exact h.2)]; rfl
theorem plA_same : ∀ (acc m : List Nd), gL (acc ++ m) → plA acc m = acc ++ m
  | acc, [], _ => by rw [plA, List.append_nil]
  | acc, n :: r, h => by
    obtain ⟨h1, h2⟩ := gL_mid h
    rw [plA, plN_same n h1, plS_plain h1 h2, plA_same (acc ++ [n]) r (by rw [List.append_assoc]; exact h), List.append_assoc]; rfl
theorem plC_same : ∀ c : Cs, gC c → plC c = c
  | .mk k m, h => by
    rw [gC] at h
    rw [plC, plA_same [] m (by rw [List.nil_append]; exact h)]; rfl
theorem plCs_same : ∀ m : List Cs, gCs m → plCs m = m
  | [], _ => by rw [plCs]
  | c :: r, h => by
    rw [gCs] at h
    rw [plCs, plC_same c h.1, plCs_same r h.2]
end
end DL

namespace DL
open PySem L2
theorem x_sPutO {i : Nat} {k e : De} {Γ : List Sl} {S : List D} : sPutO i k e Γ S = after (e Γ S) Γ fun d S1 => match Γ[i]? with
  | some (.own (.dct _ _)) => after (k Γ S1) Γ fun x S2 => match Γ[i]?, keyD x with
    | some (.own (.dct ks xs)), some q => if xs.length < sizeLine then .next (Γ.set i (.own (.dct (dPut ks xs q d).1 (dPut ks xs q d).2))) S2 else .stuck
    | _, _ => .stuck
  | _ => .stuck := Eq.trans rfl rfl
@[simp] theorem x_eDct0 {Γ : List Sl} {S : List D} : eDct0 Γ S = .ok (.dct [] []) S := Eq.trans rfl rfl
@[simp] theorem x_sRaise {c : Nat} {fld : Str} {e : De} {Γ : List Sl} {S : List D} : sRaise c fld e Γ S = after (e Γ S) Γ fun d S1 => if shOk d = true then .exc ⟨c, [fld], [d]⟩ Γ S1 else .stuck := Eq.trans rfl rfl
@[simp] theorem x_eDComp {α : Da} {p : Pat} {vs : List Nat} {t : Dt} {a b : De} {Γ : List Sl} {S : List D} : eDComp α p vs t a b Γ S = (α Γ S).bind fun xs S1 => (dcompD p t a b xs (wipeD Γ vs) S1 ([], [])).bind fun a S2 => .ok (.dct a.1 a.2) S2 := Eq.trans rfl rfl
@[simp] theorem x_sTry {i : Option Nat} {f : Nat → Option Bool} {b h : Ds} {Γ : List Sl} {S : List D} : sTry i f b h Γ S = match b Γ S with
  | .exc e Γ1 S1 => match f e.c with
    | some true => if noX Γ1 then unx i (h (setxD i e Γ1) S1) else .stuck
    | some false => .exc e Γ1 S1
    | none => .stuck
  | o => o := Eq.trans rfl rfl
@[simp] theorem x_eIsX {i : Nat} {f : Nat → Option Bool} {Γ : List Sl} {S : List D} : eIsX i f Γ S = match Γ[i]? with
  | some (.xcp x) => ofO ((f x.c).map .bl) S
  | _ => .stuck := Eq.trans rfl rfl
@[simp] theorem x_eXf {i : Nat} {f : Str} {g : Nat → Bool} {Γ : List Sl} {S : List D} : eXf i f g Γ S = match Γ[i]? with
  | some (.xcp x) => if g x.c = true then ofO ((x.ns.zip x.fs).lookup f) S else .stuck
  | _ => .stuck := Eq.trans rfl rfl
@[simp] theorem x_eGet1 {a b : De} {Γ : List Sl} {S : List D} : eGet1 a b Γ S = (a Γ S).bind fun x S1 => if isDct (deref S1 x) = true then (b Γ S1).bind fun y S2 => ofO (dGet1 (deref S2 x) y) S2 else .stuck := Eq.trans rfl rfl
end DL

namespace DL
open PySem L2
@[simp] theorem x_eAtt {f : Str} {g : Nat → Bool} {a : De} {Γ : List Sl} {S : List D} : eAtt f g a Γ S = (a Γ S).bind fun x S1 => match deref S1 x with
  | .ins c ns xs => if g c = true then ofO ((ns.zip xs).lookup f) S1 else .stuck
  | _ => .stuck := Eq.trans rfl rfl
@[simp] theorem x_sAtt {f : Str} {g : Nat → Bool} {o e : De} {Γ : List Sl} {S : List D} : sAtt f g o e Γ S = after (e Γ S) Γ fun d S1 => after (o Γ S1) Γ fun x S2 => match x with
  | .ptr q => match S2[q]? with
    | some (.ins c ns xs) => if g c = true ∧ ns.length < 900 then .next Γ (S2.set q (.ins c (putD f d ns xs).1 (putD f d ns xs).2)) else .stuck
    | _ => .stuck
  | _ => .stuck := Eq.trans rfl rfl
@[simp] theorem x_sAppP {o e : De} {Γ : List Sl} {S : List D} : sAppP o e Γ S = after (o Γ S) Γ fun x S1 => match deref S1 x with
  | .lst _ => after (e Γ S1) Γ fun d S2 => match x with
    | .ptr q => match S2[q]? with
      | some (.lst xs) => if xs.length < sizeLine then .next Γ (S2.set q (.lst (xs ++ [d]))) else .stuck
      | _ => .stuck
    | _ => .stuck
  | _ => .stuck := Eq.trans rfl rfl
@[simp] theorem x_sPopP {o : De} {Γ : List Sl} {S : List D} : sPopP o Γ S = after (o Γ S) Γ fun x S1 => match x with
  | .ptr q => match S1[q]? with
    | some (.lst xs) => if xs ≠ [] then .next Γ (S1.set q (.lst xs.dropLast)) else .stuck
    | _ => .stuck
  | _ => .stuck := Eq.trans rfl rfl
@[simp] theorem x_sPutP {o k e : De} {Γ : List Sl} {S : List D} : sPutP o k e Γ S = after (e Γ S) Γ fun d S1 => after (o Γ S1) Γ fun x S2 => after (k Γ S2) Γ fun y S3 => match x with
  | .ptr q => match S3[q]?, keyD y with
    | some (.dct ks xs), some kk => if xs.length < sizeLine then .next Γ (S3.set q (.dct (dPut ks xs kk d).1 (dPut ks xs kk d).2)) else .stuck
    | _, _ => .stuck
  | _ => .stuck := Eq.trans rfl rfl
@[simp] theorem x_sDelP {o k : De} {Γ : List Sl} {S : List D} : sDelP o k Γ S = after (o Γ S) Γ fun x S1 => after (k Γ S1) Γ fun y S2 => match x with
  | .ptr q => match S2[q]?, keyD y with
    | some (.dct ks xs), some kk => if (dGet ks xs kk).isSome = true then .next Γ (S2.set q (.dct (dDropX kk ks xs).1 (dDropX kk ks xs).2)) else .stuck
    | _, _ => .stuck
  | _ => .stuck := Eq.trans rfl rfl
@[simp] theorem x_eMeth {c : Nat} {m : Str} {F : List D → List D → Res D} {o : De} {α : Da} {Γ : List Sl} {S : List D} : eMeth c m F o α Γ S = (o Γ S).bind fun x S1 => match deref S1 x with
  | .ins c' ns _ => if c' = c ∧ ns.contains m = false then (α Γ S1).bind fun ds S2 => F (x :: ds) S2 else .stuck
  | _ => .stuck := Eq.trans rfl rfl
@[simp] theorem x_eMake {c : Nat} {F : List D → List D → Res D} {α : Da} {Γ : List Sl} {S : List D} : eMake c F α Γ S = (α Γ S).bind fun ds S1 => (F (.ptr S1.length :: ds) (S1 ++ [.ins c [] []])).bind fun d S2 => if isNon d = true then .ok (.ptr S1.length) S2 else .stuck := Eq.trans rfl rfl
@[simp] theorem x_sTryN {hs : List (Nat × (Nat → Option Bool) × Ds)} {b : Ds} {Γ : List Sl} {S : List D} : sTryN hs b Γ S = match b Γ S with
  | .exc e Γ1 S1 => catchD hs e Γ1 S1
  | o => o := Eq.trans rfl rfl
@[simp] theorem x_catch0 {e : Exn} {Γ : List Sl} {S : List D} : catchD [] e Γ S = .exc e Γ S := Eq.trans rfl rfl
@[simp] theorem x_catch {i : Nat} {f : Nat → Option Bool} {h : Ds} {r : List (Nat × (Nat → Option Bool) × Ds)} {e : Exn} {Γ : List Sl} {S : List D} : catchD ((i, f, h) :: r) e Γ S = match f e.c with
  | some true => if noX Γ then unx (some i) (h (Γ.set i (.xcp e)) S) else .stuck
  | some false => catchD r e Γ S
  | none => .stuck := Eq.trans rfl rfl
@[simp] theorem x_sPopO {i j : Nat} {k : De} {Γ : List Sl} {S : List D} : sPopO i j k Γ S = match Γ[j]? with
  | some (.own (.dct _ _)) => after (k Γ S) Γ fun y S1 => match Γ[j]?, keyD y with
    | some (.own (.dct ks xs)), some q => match dGet ks xs q with
      | some d => .next ((Γ.set j (.own (.dct (dDropX q ks xs).1 (dDropX q ks xs).2))).set i (.val d)) S1
      | none => .stuck
    | _, _ => .stuck
  | _ => .stuck := Eq.trans rfl rfl
@[simp] theorem x_sPop2P {o k x : De} {Γ : List Sl} {S : List D} : sPop2P o k x Γ S = after (o Γ S) Γ fun v S1 => if isDct (deref S1 v) = true then after (k Γ S1) Γ fun y S2 => after (x Γ S2) Γ fun _ S3 => match v with
  | .ptr q => match S3[q]?, keyD y with
    | some (.dct ks xs), some kk => if (dGet ks xs kk).isSome = true then .next Γ (S3.set q (.dct (dDropX kk ks xs).1 (dDropX kk ks xs).2)) else .next Γ S3
    | _, _ => .stuck
  | _ => .stuck else .stuck := Eq.trans rfl rfl
theorem x_sForKL {i : Nat} {p : Pat} {kl : List Nat} {β : Ds} {Γ : List Sl} {S : List D} : sForKL i p kl β Γ S = noXc (sFor (iKL i) p kl β Γ S) := Eq.trans rfl rfl
theorem x_iKL {i q : Nat} {ds : List D} {ks : List Key} {xs : List D} {Γ : List Sl} {S : List D} (h1 : Γ[i]? = some (.val (.ptr q))) (h2 : S[q]? = some (.lst ds)) (h3 : ds.getLast? = some (.dct ks xs)) : iKL i Γ S = .ok (ks.map keyK) S := by
  unfold iKL; rw [h1]; simp only; rw [h2]; simp only; rw [h3]
@[simp] theorem dListA_dct (ks : List Key) (xs : List D) : dListA (.dct ks xs) = some (.lst (ks.map keyK)) := Eq.trans rfl rfl
@[simp] theorem dDictA_dct (ks : List Key) (xs : List D) : dDictA (.dct ks xs) = some (.dct ks xs) := Eq.trans rfl rfl
@[simp] theorem cInA_dct {k : D} {q : Key} {ks : List Key} {xs : List D} (h : keyD k = some q) : cInA k (.dct ks xs) = some (.bl (dGet ks xs q).isSome) := by
  unfold cInA cInK; rw [h]; rfl
@[simp] theorem cNotInA_dct {k : D} {q : Key} {ks : List Key} {xs : List D} (h : keyD k = some q) : cNotInA k (.dct ks xs) = some (.bl (!(dGet ks xs q).isSome)) := by
  unfold cNotInA cNotInK; rw [h]; rfl
@[simp] theorem dStr_int {i : Int} : dStr (.int i) = if i.natAbs.log2 < 1920 then some (.str (toString i)) else none := Eq.trans rfl rfl
@[simp] theorem dStr_str {z : Str} : dStr (.str z) = some (.str z) := Eq.trans rfl rfl
@[simp] theorem x_isStr {z : Str} : isStr (.str z) = true := Eq.trans rfl rfl
@[simp] theorem x_eJoin {a b : De} {Γ : List Sl} {S : List D} : eJoin a b Γ S = (a Γ S).bind fun x S1 => if isStr x = true then (b Γ S1).bind fun y S2 => ofO (dJoin x (deref S2 y)) S2 else .stuck := Eq.trans rfl rfl
@[simp] theorem dJoin_lst {z : Str} {xs : List D} : dJoin (.str z) (.lst xs) = match asStrs xs with
  | some l => if (l.map (·.length)).sum + l.length * z.length ≤ 16777216 then some (.str (Txt.join z l)) else none
  | none => none := Eq.trans rfl rfl
@[simp] theorem x_eSt3 {a b c : De} {Γ : List Sl} {S : List D} : eSt3 a b c Γ S = (a Γ S).bind fun x S1 => if isStr x = true then (b Γ S1).bind fun y S2 => (c Γ S2).bind fun z S3 => ofO (dSt3 x y z) S3 else .stuck := Eq.trans rfl rfl
@[simp] theorem dSt3_str {a b : Str} {i : Int} : dSt3 (.str a) (.str b) (.int i) = some (.bl (Txt.startswith3 a b i)) := Eq.trans rfl rfl
@[simp] theorem x_sAttA {f : Str} {g : Nat → Bool} {o e : De} {Γ : List Sl} {S : List D} : sAttA f g o e Γ S = after (o Γ S) Γ fun x S1 => match x with
  | .ptr q => match S1[q]? with
    | some (.ins c ns xs) => if g c = true then match (ns.zip xs).lookup f with
      | some (.int i) => after (e Γ S1) Γ fun y S2 => match y, S2[q]? with
        | .int j, some (.ins c' ns' xs') => if c' = c ∧ ns'.length < 900 then .next Γ (S2.set q (.ins c' (putD f (.int (i + j)) ns' xs').1 (putD f (.int (i + j)) ns' xs').2)) else .stuck
        | _, _ => .stuck
      | _ => .stuck
      else .stuck
    | _ => .stuck
  | _ => .stuck := Eq.trans rfl rfl
end DL

namespace PV
section
open PySem PySem.Spec PyProof.Rows L2 DL
/-! the text -/
def topS (i : Nat) : Stmt := PySem.Challenge.pw_messageways_k09_sets_put_together.main.body.getD i (.Pass ⟨0, 0, 0, 0⟩)
abbrev s_24 : Stmt := topS 1  -- common_divisor
abbrev N_24 : List Str := ["first", "second"]
theorem sc_24 : FnScope N_24 ["first", "second"] (defScope s_24) := ⟨rfl, rfl, rfl, by decide +kernel, rfl, by decide +kernel, by decide +kernel⟩
abbrev s_25 : Stmt := topS 2  -- shortest_cycle
abbrev N_25 : List Str := ["cycle", "length"]
theorem sc_25 : FnScope N_25 ["cycle"] (defScope s_25) := ⟨rfl, rfl, rfl, by decide +kernel, rfl, by decide +kernel, by decide +kernel⟩
abbrev s_26 : Stmt := topS 3  -- settled
abbrev N_26 : List Str := ["head", "cycle", "short", "rest"]
theorem sc_26 : FnScope N_26 ["head", "cycle"] (defScope s_26) := ⟨rfl, rfl, rfl, by decide +kernel, rfl, by decide +kernel, by decide +kernel⟩
abbrev s_27 : Stmt := topS 6  -- contains
abbrev N_27 : List Str := ["one", "number", "head", "cycle"]
theorem sc_27 : FnScope N_27 ["one", "number"] (defScope s_27) := ⟨rfl, rfl, rfl, by decide +kernel, rfl, by decide +kernel, by decide +kernel⟩
abbrev s_28 : Stmt := topS 7  -- shared
abbrev N_28 : List Str := ["one", "other", "first", "second"]
theorem sc_28 : FnScope N_28 ["one", "other"] (defScope s_28) := ⟨rfl, rfl, rfl, by decide +kernel, rfl, by decide +kernel, by decide +kernel⟩
abbrev s_29 : Stmt := topS 8  -- put_together
abbrev N_29 : List Str := ["one", "other", "way", "head", "cycle", "row", "number"]
theorem sc_29 : FnScope N_29 ["one", "other", "way"] (defScope s_29) := ⟨rfl, rfl, rfl, by decide +kernel, rfl, by decide +kernel, by decide +kernel⟩
abbrev s_30 : Stmt := topS 9  -- union
abbrev N_30 : List Str := ["one", "other"]
theorem sc_30 : FnScope N_30 ["one", "other"] (defScope s_30) := ⟨rfl, rfl, rfl, by decide +kernel, rfl, by decide +kernel, by decide +kernel⟩
abbrev s_31 : Stmt := topS 10  -- common
abbrev N_31 : List Str := ["one", "other"]
theorem sc_31 : FnScope N_31 ["one", "other"] (defScope s_31) := ⟨rfl, rfl, rfl, by decide +kernel, rfl, by decide +kernel, by decide +kernel⟩
abbrev s_32 : Stmt := topS 11  -- difference
abbrev N_32 : List Str := ["one", "other"]
theorem sc_32 : FnScope N_32 ["one", "other"] (defScope s_32) := ⟨rfl, rfl, rfl, by decide +kernel, rfl, by decide +kernel, by decide +kernel⟩
abbrev s_33 : Stmt := topS 12  -- complement
abbrev N_33 : List Str := ["one"]
theorem sc_33 : FnScope N_33 ["one"] (defScope s_33) := ⟨rfl, rfl, rfl, by decide +kernel, rfl, by decide +kernel, by decide +kernel⟩
abbrev s_34 : Stmt := topS 13  -- is_empty
abbrev N_34 : List Str := ["one"]
theorem sc_34 : FnScope N_34 ["one"] (defScope s_34) := ⟨rfl, rfl, rfl, by decide +kernel, rfl, by decide +kernel, by decide +kernel⟩
abbrev s_35 : Stmt := topS 14  -- is_within
abbrev N_35 : List Str := ["one", "other"]
theorem sc_35 : FnScope N_35 ["one", "other"] (defScope s_35) := ⟨rfl, rfl, rfl, by decide +kernel, rfl, by decide +kernel, by decide +kernel⟩
abbrev s_36 : Stmt := topS 15  -- least
abbrev N_36 : List Str := ["one", "row"]
theorem sc_36 : FnScope N_36 ["one"] (defScope s_36) := ⟨rfl, rfl, rfl, by decide +kernel, rfl, by decide +kernel, by decide +kernel⟩
abbrev s_37 : Stmt := topS 16  -- single
abbrev N_37 : List Str := ["number"]
theorem sc_37 : FnScope N_37 ["number"] (defScope s_37) := ⟨rfl, rfl, rfl, by decide +kernel, rfl, by decide +kernel, by decide +kernel⟩
abbrev s_38 : Stmt := topS 17  -- moved
abbrev N_38 : List Str := ["one", "offset"]
theorem sc_38 : FnScope N_38 ["one", "offset"] (defScope s_38) := ⟨rfl, rfl, rfl, by decide +kernel, rfl, by decide +kernel, by decide +kernel⟩
abbrev s_39 : Stmt := topS 18  -- range_set
abbrev N_39 : List Str := ["low", "high"]
theorem sc_39 : FnScope N_39 ["low", "high"] (defScope s_39) := ⟨rfl, rfl, rfl, by decide +kernel, rfl, by decide +kernel, by decide +kernel⟩
abbrev s_1000 : Stmt := topS 20  -- _law_cell
abbrev N_1000 : List Str := ["_law_script", "_law_k"]
theorem sc_1000 : FnScope N_1000 ["_law_script", "_law_k"] (defScope s_1000) := ⟨rfl, rfl, rfl, by decide +kernel, rfl, by decide +kernel, by decide +kernel⟩
abbrev s_1001 : Stmt := topS 21  -- _law_digits
abbrev N_1001 : List Str := ["_law_script", "_law_first", "_law_last", "_law_digits_here", "_law_k", "_law_cell_here", "_law_turn", "_law_seed"]
theorem sc_1001 : FnScope N_1001 ["_law_script", "_law_first", "_law_last"] (defScope s_1001) := ⟨rfl, rfl, rfl, by decide +kernel, rfl, by decide +kernel, by decide +kernel⟩
abbrev s_1002 : Stmt := topS 22  -- _law_draw
abbrev N_1002 : List Str := ["_law_box", "_law_many", "_law_at"]
theorem sc_1002 : FnScope N_1002 ["_law_box", "_law_many"] (defScope s_1002) := ⟨rfl, rfl, rfl, by decide +kernel, rfl, by decide +kernel, by decide +kernel⟩
abbrev s_1003 : Stmt := topS 23  -- _law_row
abbrev N_1003 : List Str := ["_law_box", "_law_most", "_law_k"]
theorem sc_1003 : FnScope N_1003 ["_law_box", "_law_most"] (defScope s_1003) := ⟨rfl, rfl, rfl, by decide +kernel, rfl, by decide +kernel, by decide +kernel⟩
abbrev s_1005 : Stmt := topS 25  -- _law_far
abbrev N_1005 : List Str := ["_law_box"]
theorem sc_1005 : FnScope N_1005 ["_law_box"] (defScope s_1005) := ⟨rfl, rfl, rfl, by decide +kernel, rfl, by decide +kernel, by decide +kernel⟩
abbrev s_1006 : Stmt := topS 26  -- law
abbrev N_1006 : List Str := ["_law_script", "_law_box", "_law_one", "_law_two", "_law_sets", "_law_first", "_law_within", "_law_number", "_law_a", "_law_b", "_law_other", "_law_low", "_law_high", "_law_offset", "_law_k"]
theorem sc_1006 : FnScope N_1006 ["_law_script"] (defScope s_1006) := ⟨rfl, rfl, rfl, by decide +kernel, rfl, by decide +kernel, by decide +kernel⟩
def lamIn (s : Stmt) (j : Nat) (q : Str) : LW := match (defBody s).getLast? with
  | some (.Return (some (.Call _ as _ _)) _) => (match as[j]? with
    | some (.Lambda ps b sc _) => ⟨q, ps, b, sc⟩
    | _ => ⟨q, defArgs s, .Name q ⟨0, 0, 0, 0⟩, defScope s⟩)
  | _ => ⟨q, defArgs s, .Name q ⟨0, 0, 0, 0⟩, defScope s⟩
abbrev lam_1 : LW := lamIn s_30 2 "union.<locals>.<lambda>"
theorem scl_1 : FnScope ["first", "second"] ["first", "second"] lam_1.scope := ⟨rfl, rfl, rfl, by decide +kernel, rfl, by decide +kernel, by decide +kernel⟩
abbrev lam_2 : LW := lamIn s_31 2 "common.<locals>.<lambda>"
theorem scl_2 : FnScope ["first", "second"] ["first", "second"] lam_2.scope := ⟨rfl, rfl, rfl, by decide +kernel, rfl, by decide +kernel, by decide +kernel⟩
abbrev lam_3 : LW := lamIn s_32 2 "difference.<locals>.<lambda>"
theorem scl_3 : FnScope ["first", "second"] ["first", "second"] lam_3.scope := ⟨rfl, rfl, rfl, by decide +kernel, rfl, by decide +kernel, by decide +kernel⟩
abbrev lamT : Nat → LW
  | 1 => lam_1
  | 2 => lam_2
  | 3 => lam_3
  | _ => lam_1
noncomputable section
/-! what each def computes -/
def lamL (R : Rec) : Nat → List D → List D → Res D
  | 1 => R 5001
  | 2 => R 5002
  | 3 => R 5003
  | _ => fun _ _ => .stuck
def L_24_1 (R : Rec) : Ds := (sPar 0 1 (aCons (eV 1) (aCons (eOp fMod (eV 0) (eV 1)) aNil)))
theorem e_L_24_1 (R : Rec) (Γ : List Sl) (S : List D) : L_24_1 R Γ S = (sPar 0 1 (aCons (eV 1) (aCons (eOp fMod (eV 0) (eV 1)) aNil))) Γ S := rfl
def T_24_2 (R : Rec) : Dt := (tB (eOp oGt (eV 1) (eC (.int 0))))
theorem e_T_24_2 (R : Rec) (Γ : List Sl) (S : List D) : T_24_2 R Γ S = (tB (eOp oGt (eV 1) (eC (.int 0)))) Γ S := rfl
def B_24 (R : Rec) : List D → List D → Res D := bodyRun 2 (sSeq (whileD (T_24_2 R) [] (L_24_1 R) fuel) (sRet (eV 0)))  -- common_divisor
def L_25_1 (R : Rec) : Ds := (sIf (tAndD (tB (eOp cEq (eOp fMod (eUn dLen (eV 0)) (eV 1)) (eC (.int 0)))) (tB (eOp cEq (eOp dMul (eCut dCut (eV 0) pNo (pSo (eV 1))) (eOp fDiv (eUn dLen (eV 0)) (eV 1))) (eV 0)))) (sRet (eCut dCut (eV 0) pNo (pSo (eV 1)))) sNext)
theorem e_L_25_1 (R : Rec) (Γ : List Sl) (S : List D) : L_25_1 R Γ S = (sIf (tAndD (tB (eOp cEq (eOp fMod (eUn dLen (eV 0)) (eV 1)) (eC (.int 0)))) (tB (eOp cEq (eOp dMul (eCut dCut (eV 0) pNo (pSo (eV 1))) (eOp fDiv (eUn dLen (eV 0)) (eV 1))) (eV 0)))) (sRet (eCut dCut (eV 0) pNo (pSo (eV 1)))) sNext) Γ S := rfl
def B_25 (R : Rec) : List D → List D → Res D := bodyRun 2 (sSeq (sFor (iR2 (eC (.int 1)) (eOp dAdd (eUn dLen (eV 0)) (eC (.int 1)))) (.nm 1) [1] (L_25_1 R)) (sRet (eV 0)))  -- shortest_cycle
def L_26_1 (R : Rec) : Ds := (sSeq (sSet 2 (eOp dAdd (eCut dCut (eV 2) (pSo (eUn dNeg (eC (.int 1)))) pNo) (eCut dCut (eV 2) pNo (pSo (eUn dNeg (eC (.int 1))))))) (sSet 3 (eCut dCut (eV 3) pNo (pSo (eUn dNeg (eC (.int 1)))))))
theorem e_L_26_1 (R : Rec) (Γ : List Sl) (S : List D) : L_26_1 R Γ S = (sSeq (sSet 2 (eOp dAdd (eCut dCut (eV 2) (pSo (eUn dNeg (eC (.int 1)))) pNo) (eCut dCut (eV 2) pNo (pSo (eUn dNeg (eC (.int 1))))))) (sSet 3 (eCut dCut (eV 3) pNo (pSo (eUn dNeg (eC (.int 1))))))) Γ S := rfl
def T_26_2 (R : Rec) : Dt := (tAndD (tTru (eV 3)) (tB (eOp cEq (eOp dIdx (eV 3) (eUn dNeg (eC (.int 1)))) (eOp dIdx (eV 2) (eUn dNeg (eC (.int 1)))))))
theorem e_T_26_2 (R : Rec) (Γ : List Sl) (S : List D) : T_26_2 R Γ S = (tAndD (tTru (eV 3)) (tB (eOp cEq (eOp dIdx (eV 3) (eUn dNeg (eC (.int 1)))) (eOp dIdx (eV 2) (eUn dNeg (eC (.int 1))))))) Γ S := rfl
def B_26 (R : Rec) : List D → List D → Res D := bodyRun 4 (sSeq (sSet 2 (eCall (R 25) (aCons (eUn dTuple (eV 1)) aNil))) (sSeq (sSet 3 (eUn dTuple (eV 0))) (sSeq (whileD (T_26_2 R) [] (L_26_1 R) fuel) (sRet (eTup (aCons (eV 3) (aCons (eV 2) aNil)))))))  -- settled
def B_27 (R : Rec) : List D → List D → Res D := bodyRun 4 (sSeq (sBind (.tp [(.nm 2), (.nm 3)]) (eV 0)) (sSeq (sIf (tB (eOp oLt (eV 1) (eUn dLen (eV 2)))) (sRet (eOp dIdx (eV 2) (eV 1))) sNext) (sRet (eOp dIdx (eV 3) (eOp fMod (eOp fSub (eV 1) (eUn dLen (eV 2))) (eUn dLen (eV 3)))))))  -- contains
def B_28 (R : Rec) : List D → List D → Res D := bodyRun 4 (sSeq (sSet 2 (eUn dLen (eOp dIdx (eV 0) (eC (.int 1))))) (sSeq (sSet 3 (eUn dLen (eOp dIdx (eV 1) (eC (.int 1))))) (sRet (eTup (aCons (eOp dMax (eUn dLen (eOp dIdx (eV 0) (eC (.int 0)))) (eUn dLen (eOp dIdx (eV 1) (eC (.int 0))))) (aCons (eOp fDiv (eOp dMul (eV 2) (eV 3)) (eCall (R 24) (aCons (eV 2) (aCons (eV 3) aNil)))) aNil))))))  -- shared
def C_29_1 (R : Rec) : De := (eCallL lamT (lamL R) 2 (aCons (eCall (R 27) (aCons (eV 0) (aCons (eV 6) aNil))) (aCons (eCall (R 27) (aCons (eV 1) (aCons (eV 6) aNil))) aNil)))
theorem e_C_29_1 (R : Rec) (Γ : List Sl) (S : List D) : C_29_1 R Γ S = (eCallL lamT (lamL R) 2 (aCons (eCall (R 27) (aCons (eV 0) (aCons (eV 6) aNil))) (aCons (eCall (R 27) (aCons (eV 1) (aCons (eV 6) aNil))) aNil))) Γ S := rfl
def B_29 (R : Rec) : List D → List D → Res D := bodyRun 7 (sSeq (sBind (.tp [(.nm 3), (.nm 4)]) (eCall (R 28) (aCons (eV 0) (aCons (eV 1) aNil)))) (sSeq (sSet 5 (eComp (iR1 (eOp dAdd (eV 3) (eV 4))) (.nm 6) [6] tTrue (C_29_1 R))) (sRet (eCall (R 26) (aCons (eCut dCut (eV 5) pNo (pSo (eV 3))) (aCons (eCut dCut (eV 5) (pSo (eV 3)) pNo) aNil))))))  -- put_together
def B_30 (R : Rec) : List D → List D → Res D := bodyRun 2 (sRet (eCall (R 29) (aCons (eV 0) (aCons (eV 1) (aCons (eLam 1 (lamT 1)) aNil)))))  -- union
def B_31 (R : Rec) : List D → List D → Res D := bodyRun 2 (sRet (eCall (R 29) (aCons (eV 0) (aCons (eV 1) (aCons (eLam 2 (lamT 2)) aNil)))))  -- common
def B_32 (R : Rec) : List D → List D → Res D := bodyRun 2 (sRet (eCall (R 29) (aCons (eV 0) (aCons (eV 1) (aCons (eLam 3 (lamT 3)) aNil)))))  -- difference
def B_33 (R : Rec) : List D → List D → Res D := bodyRun 1 (sRet (eCall (R 32) (aCons (eC (.tup [(.tup []), (.tup [(.bl true)])])) (aCons (eV 0) aNil))))  -- complement
def B_34 (R : Rec) : List D → List D → Res D := bodyRun 1 (sRet (eOp cEq (eV 0) (eC (.tup [(.tup []), (.tup [(.bl false)])]))))  -- is_empty
def B_35 (R : Rec) : List D → List D → Res D := bodyRun 2 (sRet (eCall (R 34) (aCons (eCall (R 32) (aCons (eV 0) (aCons (eV 1) aNil))) aNil)))  -- is_within
def B_36 (R : Rec) : List D → List D → Res D := bodyRun 2 (sSeq (sSet 1 (eOp dAdd (eOp dIdx (eV 0) (eC (.int 0))) (eOp dIdx (eV 0) (eC (.int 1))))) (sSeq (sIf (tB (eOp cNotIn (eC (.bl true)) (eV 1))) (sRet (eC .non)) sNext) (sRet (eIxB (eV 1) (eC (.bl true))))))  -- least
def B_37 (R : Rec) : List D → List D → Res D := bodyRun 1 (sRet (eCall (R 26) (aCons (eOp dAdd (eOp dMulT (eTup (aCons (eC (.bl false)) aNil)) (eV 0)) (eTup (aCons (eC (.bl true)) aNil))) (aCons (eTup (aCons (eC (.bl false)) aNil)) aNil))))  -- single
def B_38 (R : Rec) : List D → List D → Res D := bodyRun 2 (sRet (eCall (R 26) (aCons (eOp dAdd (eOp dMulT (eTup (aCons (eC (.bl false)) aNil)) (eV 1)) (eOp dIdx (eV 0) (eC (.int 0)))) (aCons (eOp dIdx (eV 0) (eC (.int 1))) aNil))))  -- moved
def B_39 (R : Rec) : List D → List D → Res D := bodyRun 2 (sRet (eCall (R 26) (aCons (eOp dAdd (eOp dMulT (eTup (aCons (eC (.bl false)) aNil)) (eV 0)) (eOp dMulT (eTup (aCons (eC (.bl true)) aNil)) (eOp dAdd (eOp fSub (eV 1) (eV 0)) (eC (.int 1))))) (aCons (eTup (aCons (eC (.bl false)) aNil)) aNil))))  -- range_set
def B_1000 (R : Rec) : List D → List D → Res D := bodyRun 2 (sSeq (sIf (tB (eOp oLt (eV 1) (eUn dLen (eV 0)))) (sRet (eOp dIdx (eV 0) (eV 1))) sNext) (sRet (eC (.int 0))))  -- _law_cell
def L_1001_1 (R : Rec) : Ds := (sIf (tB (eOp oGt (eV 5) (eC (.int 0)))) (sSeq (sAppO 3 (eOp fMod (eUn dInt (eV 5)) (eC (.int 1000)))) (sSet 5 (eOp fDiv (eV 5) (eC (.int 1000))))) sNext)
theorem e_L_1001_1 (R : Rec) (Γ : List Sl) (S : List D) : L_1001_1 R Γ S = (sIf (tB (eOp oGt (eV 5) (eC (.int 0)))) (sSeq (sAppO 3 (eOp fMod (eUn dInt (eV 5)) (eC (.int 1000)))) (sSet 5 (eOp fDiv (eV 5) (eC (.int 1000))))) sNext) Γ S := rfl
def L_1001_2 (R : Rec) : Ds := (sSeq (sSet 7 (eOp fMod (eUn dInt (eOp dAdd (eOp dAdd (eOp dMul (eV 7) (eC (.int 16807))) (eOp dMul (eC (.int 7)) (eV 6))) (eC (.int 1)))) (eC (.int 2147483647)))) (sAppO 3 (eOp fMod (eUn dInt (eOp fDiv (eV 7) (eC (.int 997)))) (eC (.int 1000)))))
theorem e_L_1001_2 (R : Rec) (Γ : List Sl) (S : List D) : L_1001_2 R Γ S = (sSeq (sSet 7 (eOp fMod (eUn dInt (eOp dAdd (eOp dAdd (eOp dMul (eV 7) (eC (.int 16807))) (eOp dMul (eC (.int 7)) (eV 6))) (eC (.int 1)))) (eC (.int 2147483647)))) (sAppO 3 (eOp fMod (eUn dInt (eOp fDiv (eV 7) (eC (.int 997)))) (eC (.int 1000))))) Γ S := rfl
def L_1001_3 (R : Rec) : Ds := (sSeq (sSet 5 (eCall (R 1000) (aCons (eV 0) (aCons (eV 4) aNil)))) (sSeq (sIf (tB (eOp oLt (eV 5) (eC (.int 0)))) (sSet 5 (eOp fSub (eC (.int 1)) (eOp dMul (eC (.int 2)) (eV 5)))) sNext) (sIf (tB (eOp oGe (eV 5) (eOp fPow (eC (.int 10)) (eC (.int 18))))) (sFor (iR1 (eC (.int 60))) (.nm 6) [6] (L_1001_1 R)) (sSeq (sSet 7 (eOp fMod (eUn dInt (eOp dAdd (eOp dAdd (eOp dMul (eV 5) (eC (.int 48271))) (eOp dMul (eV 4) (eC (.int 69621)))) (eC (.int 11)))) (eC (.int 2147483647)))) (sSeq (sClr [6]) (sFor (iR1 (eC (.int 12))) (.nm 6) [6] (L_1001_2 R)))))))
theorem e_L_1001_3 (R : Rec) (Γ : List Sl) (S : List D) : L_1001_3 R Γ S = (sSeq (sSet 5 (eCall (R 1000) (aCons (eV 0) (aCons (eV 4) aNil)))) (sSeq (sIf (tB (eOp oLt (eV 5) (eC (.int 0)))) (sSet 5 (eOp fSub (eC (.int 1)) (eOp dMul (eC (.int 2)) (eV 5)))) sNext) (sIf (tB (eOp oGe (eV 5) (eOp fPow (eC (.int 10)) (eC (.int 18))))) (sFor (iR1 (eC (.int 60))) (.nm 6) [6] (L_1001_1 R)) (sSeq (sSet 7 (eOp fMod (eUn dInt (eOp dAdd (eOp dAdd (eOp dMul (eV 5) (eC (.int 48271))) (eOp dMul (eV 4) (eC (.int 69621)))) (eC (.int 11)))) (eC (.int 2147483647)))) (sSeq (sClr [6]) (sFor (iR1 (eC (.int 12))) (.nm 6) [6] (L_1001_2 R))))))) Γ S := rfl
def B_1001 (R : Rec) : List D → List D → Res D := bodyRun 8 (sSeq (sOwn 3 (eLst aNil)) (sSeq (sFor (iR2 (eV 1) (eV 2)) (.nm 4) [4, 5, 6, 7] (L_1001_3 R)) (sRetO 3)))  -- _law_digits
def B_1002 (R : Rec) : List D → List D → Res D := bodyRun 3 (sSeq (sSet 2 (eOp dIdx (eV 0) (eC (.int 1)))) (sSeq (sSetP (eV 0) (eC (.int 1)) (eOp dAdd (eV 2) (eC (.int 1)))) (sSeq (sIf (tB (eOp oLt (eV 2) (eUn dLen (eOp dIdx (eV 0) (eC (.int 0)))))) (sRet (eOp fMod (eUn dInt (eOp dIdx (eOp dIdx (eV 0) (eC (.int 0))) (eV 2))) (eV 1))) sNext) (sRet (eC (.int 0))))))  -- _law_draw
def C_1003_1 (R : Rec) : De := (eOp cEq (eCall (R 1002) (aCons (eV 0) (aCons (eC (.int 2)) aNil))) (eC (.int 0)))
theorem e_C_1003_1 (R : Rec) (Γ : List Sl) (S : List D) : C_1003_1 R Γ S = (eOp cEq (eCall (R 1002) (aCons (eV 0) (aCons (eC (.int 2)) aNil))) (eC (.int 0))) Γ S := rfl
def B_1003 (R : Rec) : List D → List D → Res D := bodyRun 3 (sRet (eUn dTuple (eComp (iR1 (eCall (R 1002) (aCons (eV 0) (aCons (eV 1) aNil)))) (.nm 2) [2] tTrue (C_1003_1 R))))  -- _law_row
def B_1005 (R : Rec) : List D → List D → Res D := bodyRun 1 (sRet (eOp dIdx (eLst (aCons (eCall (R 1002) (aCons (eV 0) (aCons (eC (.int 40)) aNil))) (aCons (eCall (R 1002) (aCons (eV 0) (aCons (eC (.int 1000)) aNil))) (aCons (eOp dAdd (eOp dMul (eCall (R 1002) (aCons (eV 0) (aCons (eC (.int 1000)) aNil))) (eC (.int 1000000007))) (eCall (R 1002) (aCons (eV 0) (aCons (eC (.int 1000)) aNil)))) aNil)))) (eCall (R 1002) (aCons (eV 0) (aCons (eC (.int 3)) aNil)))))  -- _law_far
def C_1006_1 (R : Rec) : De := (eV 14)
theorem e_C_1006_1 (R : Rec) (Γ : List Sl) (S : List D) : C_1006_1 R Γ S = (eV 14) Γ S := rfl
def C_1006_2 (R : Rec) : De := (eCall (R 1005) (aCons (eV 1) aNil))
theorem e_C_1006_2 (R : Rec) (Γ : List Sl) (S : List D) : C_1006_2 R Γ S = (eCall (R 1005) (aCons (eV 1) aNil)) Γ S := rfl
def C_1006_3 (R : Rec) : De := (eCall (R 27) (aCons (eV 10) (aCons (eV 7) aNil)))
theorem e_C_1006_3 (R : Rec) (Γ : List Sl) (S : List D) : C_1006_3 R Γ S = (eCall (R 27) (aCons (eV 10) (aCons (eV 7) aNil))) Γ S := rfl
def L_1006_4 (R : Rec) : Ds := (sSeq (sSet 8 (eCall (R 27) (aCons (eV 2) (aCons (eV 7) aNil)))) (sSeq (sSet 9 (eCall (R 27) (aCons (eV 3) (aCons (eV 7) aNil)))) (sSeq (sIf (tB (eOp cNe (eComp (iA (eV 4)) (.nm 10) [10] tTrue (C_1006_3 R)) (eLst (aCons (eOr (eV 8) (eV 9)) (aCons (eAnd (eV 8) (eV 9)) (aCons (eAnd (eV 8) (eNot (eV 9))) (aCons (eNot (eV 8)) aNil))))))) (sRet (eC (.bl false))) sNext) (sSeq (sIf (tAndD (tTru (eV 8)) (tB (eOp cIs (eV 5) (eC .non)))) (sSet 5 (eV 7)) sNext) (sIf (tAndD (tTru (eV 8)) (tNotD (tTru (eV 9)))) (sSet 6 (eC (.bl false))) sNext)))))
theorem e_L_1006_4 (R : Rec) (Γ : List Sl) (S : List D) : L_1006_4 R Γ S = (sSeq (sSet 8 (eCall (R 27) (aCons (eV 2) (aCons (eV 7) aNil)))) (sSeq (sSet 9 (eCall (R 27) (aCons (eV 3) (aCons (eV 7) aNil)))) (sSeq (sIf (tB (eOp cNe (eComp (iA (eV 4)) (.nm 10) [10] tTrue (C_1006_3 R)) (eLst (aCons (eOr (eV 8) (eV 9)) (aCons (eAnd (eV 8) (eV 9)) (aCons (eAnd (eV 8) (eNot (eV 9))) (aCons (eNot (eV 8)) aNil))))))) (sRet (eC (.bl false))) sNext) (sSeq (sIf (tAndD (tTru (eV 8)) (tB (eOp cIs (eV 5) (eC .non)))) (sSet 5 (eV 7)) sNext) (sIf (tAndD (tTru (eV 8)) (tNotD (tTru (eV 9)))) (sSet 6 (eC (.bl false))) sNext))))) Γ S := rfl
def L_1006_5 (R : Rec) : Ds := (sIf (tB (eOp cNe (eCall (R 26) (aCons (eOp dIdx (eV 10) (eC (.int 0))) (aCons (eOp dIdx (eV 10) (eC (.int 1))) aNil))) (eV 10))) (sRet (eC (.bl false))) sNext)
theorem e_L_1006_5 (R : Rec) (Γ : List Sl) (S : List D) : L_1006_5 R Γ S = (sIf (tB (eOp cNe (eCall (R 26) (aCons (eOp dIdx (eV 10) (eC (.int 0))) (aCons (eOp dIdx (eV 10) (eC (.int 1))) aNil))) (eV 10))) (sRet (eC (.bl false))) sNext) Γ S := rfl
def L_1006_6 (R : Rec) : Ds := (sSeq (sIf (tOrD (tB (eOp cNe (eCall (R 27) (aCons (eCall (R 39) (aCons (eV 11) (aCons (eV 12) aNil))) (aCons (eV 7) aNil))) (eChain oLe oLe (eV 11) (eV 7) (eV 12)))) (tB (eOp cNe (eCall (R 27) (aCons (eCall (R 37) (aCons (eV 11) aNil)) (aCons (eV 7) aNil))) (eOp cEq (eV 7) (eV 11))))) (sRet (eC (.bl false))) sNext) (sIf (tB (eOp cNe (eCall (R 27) (aCons (eCall (R 38) (aCons (eV 2) (aCons (eV 13) aNil))) (aCons (eV 7) aNil))) (eAnd (eOp oGe (eV 7) (eV 13)) (eCall (R 27) (aCons (eV 2) (aCons (eOp dMax (eC (.int 0)) (eOp fSub (eV 7) (eV 13))) aNil)))))) (sRet (eC (.bl false))) sNext))
theorem e_L_1006_6 (R : Rec) (Γ : List Sl) (S : List D) : L_1006_6 R Γ S = (sSeq (sIf (tOrD (tB (eOp cNe (eCall (R 27) (aCons (eCall (R 39) (aCons (eV 11) (aCons (eV 12) aNil))) (aCons (eV 7) aNil))) (eChain oLe oLe (eV 11) (eV 7) (eV 12)))) (tB (eOp cNe (eCall (R 27) (aCons (eCall (R 37) (aCons (eV 11) aNil)) (aCons (eV 7) aNil))) (eOp cEq (eV 7) (eV 11))))) (sRet (eC (.bl false))) sNext) (sIf (tB (eOp cNe (eCall (R 27) (aCons (eCall (R 38) (aCons (eV 2) (aCons (eV 13) aNil))) (aCons (eV 7) aNil))) (eAnd (eOp oGe (eV 7) (eV 13)) (eCall (R 27) (aCons (eV 2) (aCons (eOp dMax (eC (.int 0)) (eOp fSub (eV 7) (eV 13))) aNil)))))) (sRet (eC (.bl false))) sNext)) Γ S := rfl
def B_1006 (R : Rec) : List D → List D → Res D := bodyRun 15 (sSeq (sSet 1 (eBox (eLst (aCons (eCall (R 1001) (aCons (eV 0) (aCons (eC (.int 0)) (aCons (eC (.int 63)) aNil)))) (aCons (eC (.int 0)) aNil))))) (sSeq (sSet 2 (eCall (R 26) (aCons (eCall (R 1003) (aCons (eV 1) (aCons (eC (.int 7)) aNil))) (aCons (eOp dAdd (eTup (aCons (eOp cEq (eCall (R 1002) (aCons (eV 1) (aCons (eC (.int 2)) aNil))) (eC (.int 0))) aNil)) (eCall (R 1003) (aCons (eV 1) (aCons (eC (.int 5)) aNil)))) aNil)))) (sSeq (sSet 3 (eCall (R 26) (aCons (eCall (R 1003) (aCons (eV 1) (aCons (eC (.int 7)) aNil))) (aCons (eOp dAdd (eTup (aCons (eOp cEq (eCall (R 1002) (aCons (eV 1) (aCons (eC (.int 2)) aNil))) (eC (.int 0))) aNil)) (eCall (R 1003) (aCons (eV 1) (aCons (eC (.int 5)) aNil)))) aNil)))) (sSeq (sSet 4 (eLst (aCons (eCall (R 30) (aCons (eV 2) (aCons (eV 3) aNil))) (aCons (eCall (R 31) (aCons (eV 2) (aCons (eV 3) aNil))) (aCons (eCall (R 32) (aCons (eV 2) (aCons (eV 3) aNil))) (aCons (eCall (R 33) (aCons (eV 2) aNil)) aNil)))))) (sSeq (sSet 5 (eC .non)) (sSeq (sSet 6 (eC (.bl true))) (sSeq (sFor (iA (eOp dAdd (eComp (iR1 (eC (.int 80))) (.nm 14) [14] tTrue (C_1006_1 R)) (eComp (iR1 (eC (.int 9))) (.nm 14) [14] tTrue (C_1006_2 R)))) (.nm 7) [7, 8, 9] (L_1006_4 R)) (sSeq (sClr [10]) (sSeq (sFor (iA (eV 4)) (.nm 10) [10] (L_1006_5 R)) (sSeq (sIf (tOrD (tB (eOp cNe (eCall (R 36) (aCons (eV 2) aNil)) (eV 5))) (tOrD (tB (eOp cNe (eCall (R 34) (aCons (eV 2) aNil)) (eOp cIs (eV 5) (eC .non)))) (tB (eOp cNe (eCall (R 35) (aCons (eV 2) (aCons (eV 3) aNil))) (eV 6))))) (sRet (eC (.bl false))) sNext) (sSeq (sIf (tOrD (tNotD (tTru (eCall (R 34) (aCons (eC (.tup [(.tup []), (.tup [(.bl false)])])) aNil)))) (tB (eOp cIsNotB (eCall (R 27) (aCons (eC (.tup [(.tup []), (.tup [(.bl true)])])) (aCons (eCall (R 1005) (aCons (eV 1) aNil)) aNil))) (eC (.bl true))))) (sRet (eC (.bl false))) sNext) (sSeq (sSet 11 (eCall (R 1002) (aCons (eV 1) (aCons (eC (.int 9)) aNil)))) (sSeq (sSet 12 (eOp dAdd (eV 11) (eCall (R 1002) (aCons (eV 1) (aCons (eC (.int 9)) aNil))))) (sSeq (sSet 13 (eCall (R 1002) (aCons (eV 1) (aCons (eC (.int 10)) aNil)))) (sSeq (sClr [7]) (sSeq (sFor (iR1 (eC (.int 40))) (.nm 7) [7] (L_1006_6 R)) (sRet (eC (.bl true)))))))))))))))))))  -- law
def B_5001 (R : Rec) : List D → List D → Res D := lamRun 2 (eOr (eV 0) (eV 1))
def B_5002 (R : Rec) : List D → List D → Res D := lamRun 2 (eAnd (eV 0) (eV 1))
def B_5003 (R : Rec) : List D → List D → Res D := lamRun 2 (eAnd (eV 0) (eNot (eV 1)))
def tab (R : Rec) : Rec := fun i => match i with
  | 24 => B_24 R
  | 25 => B_25 R
  | 26 => B_26 R
  | 27 => B_27 R
  | 28 => B_28 R
  | 29 => B_29 R
  | 30 => B_30 R
  | 31 => B_31 R
  | 32 => B_32 R
  | 33 => B_33 R
  | 34 => B_34 R
  | 35 => B_35 R
  | 36 => B_36 R
  | 37 => B_37 R
  | 38 => B_38 R
  | 39 => B_39 R
  | 1000 => B_1000 R
  | 1001 => B_1001 R
  | 1002 => B_1002 R
  | 1003 => B_1003 R
  | 1005 => B_1005 R
  | 1006 => B_1006 R
  | 5001 => B_5001 R
  | 5002 => B_5002 R
  | 5003 => B_5003 R
  | _ => fun _ _ => .stuck
def run : Nat → Rec
  | 0 => fun _ _ _ => .stuck
  | n + 1 => tab (run n)
theorem run_24 (n : Nat) : run (n + 1) 24 = B_24 (run n) := rfl
theorem run_25 (n : Nat) : run (n + 1) 25 = B_25 (run n) := rfl
theorem run_26 (n : Nat) : run (n + 1) 26 = B_26 (run n) := rfl
theorem run_27 (n : Nat) : run (n + 1) 27 = B_27 (run n) := rfl
theorem run_28 (n : Nat) : run (n + 1) 28 = B_28 (run n) := rfl
theorem run_29 (n : Nat) : run (n + 1) 29 = B_29 (run n) := rfl
theorem run_30 (n : Nat) : run (n + 1) 30 = B_30 (run n) := rfl
theorem run_31 (n : Nat) : run (n + 1) 31 = B_31 (run n) := rfl
theorem run_32 (n : Nat) : run (n + 1) 32 = B_32 (run n) := rfl
theorem run_33 (n : Nat) : run (n + 1) 33 = B_33 (run n) := rfl
theorem run_34 (n : Nat) : run (n + 1) 34 = B_34 (run n) := rfl
theorem run_35 (n : Nat) : run (n + 1) 35 = B_35 (run n) := rfl
theorem run_36 (n : Nat) : run (n + 1) 36 = B_36 (run n) := rfl
theorem run_37 (n : Nat) : run (n + 1) 37 = B_37 (run n) := rfl
theorem run_38 (n : Nat) : run (n + 1) 38 = B_38 (run n) := rfl
theorem run_39 (n : Nat) : run (n + 1) 39 = B_39 (run n) := rfl
theorem run_1000 (n : Nat) : run (n + 1) 1000 = B_1000 (run n) := rfl
theorem run_1001 (n : Nat) : run (n + 1) 1001 = B_1001 (run n) := rfl
theorem run_1002 (n : Nat) : run (n + 1) 1002 = B_1002 (run n) := rfl
theorem run_1003 (n : Nat) : run (n + 1) 1003 = B_1003 (run n) := rfl
theorem run_1005 (n : Nat) : run (n + 1) 1005 = B_1005 (run n) := rfl
theorem run_1006 (n : Nat) : run (n + 1) 1006 = B_1006 (run n) := rfl
theorem run_5001 (n : Nat) : run (n + 1) 5001 = B_5001 (run n) := rfl
theorem run_5002 (n : Nat) : run (n + 1) 5002 = B_5002 (run n) := rfl
theorem run_5003 (n : Nat) : run (n + 1) 5003 = B_5003 (run n) := rfl
end
/-! the top -/
structure Top (P : Program) (K : PySem.W.Frag) (mg : Str → Option Value) (cls : Nat → Addr) (A : Nat → Addr) (FD : Nat → FuncData) : Prop where
  b_int : mg "int" = none
  b_len : mg "len" = none
  b_max : mg "max" = none
  b_range : mg "range" = none
  b_tuple : mg "tuple" = none
  c_ALL : ∃ v, mg "ALL" = some v ∧ TupK K (.tup [(.tup []), (.tup [(.bl true)])]) v
  c_NONE : ∃ v, mg "NONE" = some v ∧ TupK K (.tup [(.tup []), (.tup [(.bl false)])]) v
  f_24 : Fun K "common_divisor" "common_divisor" s_24 (A 24) (FD 24)
  g_24 : mg "common_divisor" = some (.ref (A 24))
  n_24 : Binds K (FD 24) ["first", "second"] []
  f_25 : Fun K "shortest_cycle" "shortest_cycle" s_25 (A 25) (FD 25)
  g_25 : mg "shortest_cycle" = some (.ref (A 25))
  n_25 : Binds K (FD 25) ["cycle"] []
  f_26 : Fun K "settled" "settled" s_26 (A 26) (FD 26)
  g_26 : mg "settled" = some (.ref (A 26))
  n_26 : Binds K (FD 26) ["head", "cycle"] []
  f_27 : Fun K "contains" "contains" s_27 (A 27) (FD 27)
  g_27 : mg "contains" = some (.ref (A 27))
  n_27 : Binds K (FD 27) ["one", "number"] []
  f_28 : Fun K "shared" "shared" s_28 (A 28) (FD 28)
  g_28 : mg "shared" = some (.ref (A 28))
  n_28 : Binds K (FD 28) ["one", "other"] []
  f_29 : Fun K "put_together" "put_together" s_29 (A 29) (FD 29)
  g_29 : mg "put_together" = some (.ref (A 29))
  n_29 : Binds K (FD 29) ["one", "other", "way"] []
  f_30 : Fun K "union" "union" s_30 (A 30) (FD 30)
  g_30 : mg "union" = some (.ref (A 30))
  n_30 : Binds K (FD 30) ["one", "other"] []
  f_31 : Fun K "common" "common" s_31 (A 31) (FD 31)
  g_31 : mg "common" = some (.ref (A 31))
  n_31 : Binds K (FD 31) ["one", "other"] []
  f_32 : Fun K "difference" "difference" s_32 (A 32) (FD 32)
  g_32 : mg "difference" = some (.ref (A 32))
  n_32 : Binds K (FD 32) ["one", "other"] []
  f_33 : Fun K "complement" "complement" s_33 (A 33) (FD 33)
  g_33 : mg "complement" = some (.ref (A 33))
  n_33 : Binds K (FD 33) ["one"] []
  f_34 : Fun K "is_empty" "is_empty" s_34 (A 34) (FD 34)
  g_34 : mg "is_empty" = some (.ref (A 34))
  n_34 : Binds K (FD 34) ["one"] []
  f_35 : Fun K "is_within" "is_within" s_35 (A 35) (FD 35)
  g_35 : mg "is_within" = some (.ref (A 35))
  n_35 : Binds K (FD 35) ["one", "other"] []
  f_36 : Fun K "least" "least" s_36 (A 36) (FD 36)
  g_36 : mg "least" = some (.ref (A 36))
  n_36 : Binds K (FD 36) ["one"] []
  f_37 : Fun K "single" "single" s_37 (A 37) (FD 37)
  g_37 : mg "single" = some (.ref (A 37))
  n_37 : Binds K (FD 37) ["number"] []
  f_38 : Fun K "moved" "moved" s_38 (A 38) (FD 38)
  g_38 : mg "moved" = some (.ref (A 38))
  n_38 : Binds K (FD 38) ["one", "offset"] []
  f_39 : Fun K "range_set" "range_set" s_39 (A 39) (FD 39)
  g_39 : mg "range_set" = some (.ref (A 39))
  n_39 : Binds K (FD 39) ["low", "high"] []
  f_1000 : Fun K "_law_cell" "_law_cell" s_1000 (A 1000) (FD 1000)
  g_1000 : mg "_law_cell" = some (.ref (A 1000))
  n_1000 : Binds K (FD 1000) ["_law_script", "_law_k"] []
  f_1001 : Fun K "_law_digits" "_law_digits" s_1001 (A 1001) (FD 1001)
  g_1001 : mg "_law_digits" = some (.ref (A 1001))
  n_1001 : Binds K (FD 1001) ["_law_script", "_law_first", "_law_last"] []
  f_1002 : Fun K "_law_draw" "_law_draw" s_1002 (A 1002) (FD 1002)
  g_1002 : mg "_law_draw" = some (.ref (A 1002))
  n_1002 : Binds K (FD 1002) ["_law_box", "_law_many"] []
  f_1003 : Fun K "_law_row" "_law_row" s_1003 (A 1003) (FD 1003)
  g_1003 : mg "_law_row" = some (.ref (A 1003))
  n_1003 : Binds K (FD 1003) ["_law_box", "_law_most"] []
  f_1005 : Fun K "_law_far" "_law_far" s_1005 (A 1005) (FD 1005)
  g_1005 : mg "_law_far" = some (.ref (A 1005))
  n_1005 : Binds K (FD 1005) ["_law_box"] []
  f_1006 : Fun K "law" "law" s_1006 (A 1006) (FD 1006)
  g_1006 : mg "law" = some (.ref (A 1006))
  n_1006 : Binds K (FD 1006) ["_law_script"] []
structure Bs (mg : Str → Option Value) (base : Heap) (cls : Nat → Addr) (FD : Nat → FuncData) : Prop where
  bm : ∃ P0, base.BuiltinsAt mg P0
  ex_30 : ∃ c, (FD 30).code = .ref c
  cd_30 : ∀ {c}, (FD 30).code = .ref c → PySem.W.CodeHd base c (cls (1 + 1000))
  nz_30 : cls (1 + 1000) ≠ 0
  un_30 : ∀ j, cls (j + 1000) = cls (1 + 1000) → cls (j + 1000) ≠ 0 → j = 1
  ex_31 : ∃ c, (FD 31).code = .ref c
  cd_31 : ∀ {c}, (FD 31).code = .ref c → PySem.W.CodeHd base c (cls (2 + 1000))
  nz_31 : cls (2 + 1000) ≠ 0
  un_31 : ∀ j, cls (j + 1000) = cls (2 + 1000) → cls (j + 1000) ≠ 0 → j = 2
  ex_32 : ∃ c, (FD 32).code = .ref c
  cd_32 : ∀ {c}, (FD 32).code = .ref c → PySem.W.CodeHd base c (cls (3 + 1000))
  nz_32 : cls (3 + 1000) ≠ 0
  un_32 : ∀ j, cls (j + 1000) = cls (3 + 1000) → cls (j + 1000) ≠ 0 → j = 3
structure All (P : Program) (w : World) (K : PySem.W.Frag) (mg : Str → Option Value) (base : Heap) (cls : Nat → Addr) (A : Nat → Addr) (FD : Nat → FuncData) (n : Nat) (R : Rec) : Prop where
  k_24 : FnG P w K mg base (8 * n) (A 24) (FD 24) ["first", "second"] (spD ⟨K, cls⟩ 2 (R 24))
  k_25 : FnG P w K mg base (8 * n) (A 25) (FD 25) ["cycle"] (spD ⟨K, cls⟩ 1 (R 25))
  k_26 : FnG P w K mg base (8 * n) (A 26) (FD 26) ["head", "cycle"] (spD ⟨K, cls⟩ 2 (R 26))
  k_27 : FnG P w K mg base (8 * n) (A 27) (FD 27) ["one", "number"] (spD ⟨K, cls⟩ 2 (R 27))
  k_28 : FnG P w K mg base (8 * n) (A 28) (FD 28) ["one", "other"] (spD ⟨K, cls⟩ 2 (R 28))
  k_29 : FnG P w K mg base (8 * n) (A 29) (FD 29) ["one", "other", "way"] (spD ⟨K, cls⟩ 3 (R 29))
  k_30 : FnG P w K mg base (8 * n) (A 30) (FD 30) ["one", "other"] (spD ⟨K, cls⟩ 2 (R 30))
  k_31 : FnG P w K mg base (8 * n) (A 31) (FD 31) ["one", "other"] (spD ⟨K, cls⟩ 2 (R 31))
  k_32 : FnG P w K mg base (8 * n) (A 32) (FD 32) ["one", "other"] (spD ⟨K, cls⟩ 2 (R 32))
  k_33 : FnG P w K mg base (8 * n) (A 33) (FD 33) ["one"] (spD ⟨K, cls⟩ 1 (R 33))
  k_34 : FnG P w K mg base (8 * n) (A 34) (FD 34) ["one"] (spD ⟨K, cls⟩ 1 (R 34))
  k_35 : FnG P w K mg base (8 * n) (A 35) (FD 35) ["one", "other"] (spD ⟨K, cls⟩ 2 (R 35))
  k_36 : FnG P w K mg base (8 * n) (A 36) (FD 36) ["one"] (spD ⟨K, cls⟩ 1 (R 36))
  k_37 : FnG P w K mg base (8 * n) (A 37) (FD 37) ["number"] (spD ⟨K, cls⟩ 1 (R 37))
  k_38 : FnG P w K mg base (8 * n) (A 38) (FD 38) ["one", "offset"] (spD ⟨K, cls⟩ 2 (R 38))
  k_39 : FnG P w K mg base (8 * n) (A 39) (FD 39) ["low", "high"] (spD ⟨K, cls⟩ 2 (R 39))
  k_1000 : FnG P w K mg base (8 * n) (A 1000) (FD 1000) ["_law_script", "_law_k"] (spD ⟨K, cls⟩ 2 (R 1000))
  k_1001 : FnG P w K mg base (8 * n) (A 1001) (FD 1001) ["_law_script", "_law_first", "_law_last"] (spD ⟨K, cls⟩ 3 (R 1001))
  k_1002 : FnG P w K mg base (8 * n) (A 1002) (FD 1002) ["_law_box", "_law_many"] (spD ⟨K, cls⟩ 2 (R 1002))
  k_1003 : FnG P w K mg base (8 * n) (A 1003) (FD 1003) ["_law_box", "_law_most"] (spD ⟨K, cls⟩ 2 (R 1003))
  k_1005 : FnG P w K mg base (8 * n) (A 1005) (FD 1005) ["_law_box"] (spD ⟨K, cls⟩ 1 (R 1005))
  k_1006 : FnG P w K mg base (8 * n) (A 1006) (FD 1006) ["_law_script"] (spD ⟨K, cls⟩ 1 (R 1006))
  k_5001 : LmG P w K mg base (8 * n) (lamT 1) ["first", "second"] (spD ⟨K, cls⟩ 2 (R 5001))
  k_5002 : LmG P w K mg base (8 * n) (lamT 2) ["first", "second"] (spD ⟨K, cls⟩ 2 (R 5002))
  k_5003 : LmG P w K mg base (8 * n) (lamT 3) ["first", "second"] (spD ⟨K, cls⟩ 2 (R 5003))
section
variable {P : Program} {w : World} {K : PySem.W.Frag} {mg : Str → Option Value} {base : Heap} {cls : Nat → Addr} {A : Nat → Addr} {FD : Nat → FuncData} {n : Nat} {R : Rec}
theorem lam_all (a : All P w K mg base cls A FD n R) : ∀ j, LmG P w K mg base (8 * n) (lamT j) ["first", "second"] (spD ⟨K, cls⟩ 2 (lamL R j))
  | 0 => lmG_stuck fun _ _ => rfl
  | 1 => a.k_5001
  | 2 => a.k_5002
  | 3 => a.k_5003
  | _ + 4 => lmG_stuck fun _ _ => rfl
theorem W_5001 (T : Top P K mg cls A FD) (a : All P w K mg base cls A FD n R) : LmG P w K mg base (8 * n + 7 + 1) (lamT 1) ["first", "second"] (spD ⟨K, cls⟩ 2 (B_5001 R)) :=
  lam_ok scl_1 (fun _ _ _ _ us hl => match us, hl with | [_, _], _ => rfl) fun f c A' outer s H E hr => (de_or (de_v 0) (de_one (de_v 1)))
theorem W_5002 (T : Top P K mg cls A FD) (a : All P w K mg base cls A FD n R) : LmG P w K mg base (8 * n + 7 + 1) (lamT 2) ["first", "second"] (spD ⟨K, cls⟩ 2 (B_5002 R)) :=
  lam_ok scl_2 (fun _ _ _ _ us hl => match us, hl with | [_, _], _ => rfl) fun f c A' outer s H E hr => (de_and (de_v 0) (de_one (de_v 1)))
theorem W_5003 (T : Top P K mg cls A FD) (a : All P w K mg base cls A FD n R) : LmG P w K mg base (8 * n + 7 + 1) (lamT 3) ["first", "second"] (spD ⟨K, cls⟩ 2 (B_5003 R)) :=
  lam_ok scl_3 (fun _ _ _ _ us hl => match us, hl with | [_, _], _ => rfl) fun f c A' outer s H E hr => (de_and (de_v 0) (de_one (de_not (de_v 1))))
/-- common_divisor -/
theorem W_24 (T : Top P K mg cls A FD) (a : All P w K mg base cls A FD n R) : FnG P w K mg base (8 * n + 7 + 1) (A 24) (FD 24) ["first", "second"] (spD ⟨K, cls⟩ 2 (B_24 R)) :=
  defG_ok T.f_24 sc_24 fun cdv A' outer s H E hr => by
    have tk := takes_of (X := cxOf (L2.CX P w) P w K mg base N_24 "common_divisor" (defScope s_24) (A 24) cdv A' outer s H E) rfl rfl rfl rfl
    have hrG := hr
    have hr1 := hrG.less (show 8 * n + 1 ≤ 8 * n + 7 by omega)
    have hr := hrG.less (show 8 * n ≤ 8 * n + 7 by omega)
    exact (dss_cons (ds_while (passes_of rfl) (dt_gt (de_o (de_v 1)) (de_o de_int)) (dss_one (ds_par (i := 0) (j := 1) rfl sc_24.nd rfl rfl (by decide) rfl rfl (da_cons (de_v 1) (da_cons (de_mod (de_o (de_v 0)) (de_o (de_v 1))) da_nil)) rfl))) (dss_one (ds_ret (de_v 0))))
/-- shortest_cycle -/
theorem W_25 (T : Top P K mg cls A FD) (a : All P w K mg base cls A FD n R) : FnG P w K mg base (8 * n + 7 + 1) (A 25) (FD 25) ["cycle"] (spD ⟨K, cls⟩ 1 (B_25 R)) :=
  defG_ok T.f_25 sc_25 fun cdv A' outer s H E hr => by
    have tk := takes_of (X := cxOf (L2.CX P w) P w K mg base N_25 "shortest_cycle" (defScope s_25) (A 25) cdv A' outer s H E) rfl rfl rfl rfl
    have hrG := hr
    have hr1 := hrG.less (show 8 * n + 1 ≤ 8 * n + 7 by omega)
    have hr := hrG.less (show 8 * n ≤ 8 * n + 7 by omega)
    exact (dss_cons (ds_for (passes_of rfl) rfl (di_r2 rfl T.b_range de_int (de_add (de_o (de_len rfl T.b_len (de_o (de_v 0)))) (de_o de_int))) (pg_name (i := 1) sc_25.nd rfl (by first | exact Or.inl rfl | exact Or.inr rfl)) (dss_one (ds_if (dw_t (dw_and (dt_eq hr.units (de_o (de_mod (de_o (de_len rfl T.b_len (de_o (de_v 0)))) (de_o (de_v 1)))) (de_o de_int)) (dw_and1 (dt_eq hr.units (de_o (de_mul (de_o (de_cut (de_o (de_v 0)) dp_no (dp_so (de_v 1)))) (de_o (de_div (de_o (de_len rfl T.b_len (de_o (de_v 0)))) (de_o (de_v 1)))))) (de_o (de_v 0)))))) (dss_one (ds_ret (de_cut (de_o (de_v 0)) dp_no (dp_so (de_v 1))))) dss_nil))) (dss_one (ds_ret (de_v 0))))
/-- settled -/
theorem W_26 (T : Top P K mg cls A FD) (a : All P w K mg base cls A FD n R) : FnG P w K mg base (8 * n + 7 + 1) (A 26) (FD 26) ["head", "cycle"] (spD ⟨K, cls⟩ 2 (B_26 R)) :=
  defG_ok T.f_26 sc_26 fun cdv A' outer s H E hr => by
    have tk := takes_of (X := cxOf (L2.CX P w) P w K mg base N_26 "settled" (defScope s_26) (A 26) cdv A' outer s H E) rfl rfl rfl rfl
    have hrG := hr
    have hr1 := hrG.less (show 8 * n + 1 ≤ 8 * n + 7 by omega)
    have hr := hrG.less (show 8 * n ≤ 8 * n + 7 by omega)
    exact (dss_cons (ds_set (i := 2) sc_26.nd rfl (by first | exact Or.inl rfl | exact Or.inr rfl) (de_callG a.k_25 tk hr rfl T.g_25 T.f_25.kp T.n_25 (da_cons (de_tuple rfl T.b_tuple (de_o (de_v 1))) da_nil) (ALen.cons ALen.nil))) (dss_cons (ds_set (i := 3) sc_26.nd rfl (by first | exact Or.inl rfl | exact Or.inr rfl) (de_tuple rfl T.b_tuple (de_o (de_v 0)))) (dss_cons (ds_while (passes_of rfl) (dw_t (dw_and (dt_tru (de_o (de_v 3))) (dw_and1 (dt_eq hr.units (de_o (de_sub_ (de_o (de_v 3)) (de_o (de_neg (de_o de_int))))) (de_o (de_sub_ (de_o (de_v 2)) (de_o (de_neg (de_o de_int))))))))) (dss_cons (ds_set (i := 2) sc_26.nd rfl (by first | exact Or.inl rfl | exact Or.inr rfl) (de_add (de_o (de_cut (de_o (de_v 2)) (dp_so (de_neg (de_o de_int))) dp_no)) (de_o (de_cut (de_o (de_v 2)) dp_no (dp_so (de_neg (de_o de_int))))))) (dss_one (ds_set (i := 3) sc_26.nd rfl (by first | exact Or.inl rfl | exact Or.inr rfl) (de_cut (de_o (de_v 3)) dp_no (dp_so (de_neg (de_o de_int)))))))) (dss_one (ds_ret (de_tup (da_cons (de_v 3) (da_cons (de_v 2) da_nil)) ((ALen.cons (ALen.cons ALen.nil)).line (by decide))))))))
/-- contains -/
theorem W_27 (T : Top P K mg cls A FD) (a : All P w K mg base cls A FD n R) : FnG P w K mg base (8 * n + 7 + 1) (A 27) (FD 27) ["one", "number"] (spD ⟨K, cls⟩ 2 (B_27 R)) :=
  defG_ok T.f_27 sc_27 fun cdv A' outer s H E hr => by
    have tk := takes_of (X := cxOf (L2.CX P w) P w K mg base N_27 "contains" (defScope s_27) (A 27) cdv A' outer s H E) rfl rfl rfl rfl
    have hrG := hr
    have hr1 := hrG.less (show 8 * n + 1 ≤ 8 * n + 7 by omega)
    have hr := hrG.less (show 8 * n ≤ 8 * n + 7 by omega)
    exact (dss_cons (ds_bind (de_v 0) (pg_tup rfl (pgs_cons (pg_name (i := 2) sc_27.nd rfl (by first | exact Or.inl rfl | exact Or.inr rfl)) (pgs_cons (pg_name (i := 3) sc_27.nd rfl (by first | exact Or.inl rfl | exact Or.inr rfl)) pgs_nil)))) (dss_cons (ds_if (dt_lt (de_o (de_v 1)) (de_o (de_len rfl T.b_len (de_o (de_v 2))))) (dss_one (ds_ret (de_sub_ (de_o (de_v 2)) (de_o (de_v 1))))) dss_nil) (dss_one (ds_ret (de_sub_ (de_o (de_v 3)) (de_o (de_mod (de_o (de_sub (de_o (de_v 1)) (de_o (de_len rfl T.b_len (de_o (de_v 2)))))) (de_o (de_len rfl T.b_len (de_o (de_v 3)))))))))))
/-- shared -/
theorem W_28 (T : Top P K mg cls A FD) (a : All P w K mg base cls A FD n R) : FnG P w K mg base (8 * n + 7 + 1) (A 28) (FD 28) ["one", "other"] (spD ⟨K, cls⟩ 2 (B_28 R)) :=
  defG_ok T.f_28 sc_28 fun cdv A' outer s H E hr => by
    have tk := takes_of (X := cxOf (L2.CX P w) P w K mg base N_28 "shared" (defScope s_28) (A 28) cdv A' outer s H E) rfl rfl rfl rfl
    have hrG := hr
    have hr1 := hrG.less (show 8 * n + 1 ≤ 8 * n + 7 by omega)
    have hr := hrG.less (show 8 * n ≤ 8 * n + 7 by omega)
    exact (dss_cons (ds_set (i := 2) sc_28.nd rfl (by first | exact Or.inl rfl | exact Or.inr rfl) (de_len rfl T.b_len (de_o (de_sub_ (de_o (de_v 0)) (de_o de_int))))) (dss_cons (ds_set (i := 3) sc_28.nd rfl (by first | exact Or.inl rfl | exact Or.inr rfl) (de_len rfl T.b_len (de_o (de_sub_ (de_o (de_v 1)) (de_o de_int))))) (dss_one (ds_ret (de_tup (da_cons (de_max rfl T.b_max rfl (de_o (de_len rfl T.b_len (de_o (de_sub_ (de_o (de_v 0)) (de_o de_int))))) (de_o (de_len rfl T.b_len (de_o (de_sub_ (de_o (de_v 1)) (de_o de_int)))))) (da_cons (de_div (de_o (de_mul (de_o (de_v 2)) (de_o (de_v 3)))) (de_o (de_callG a.k_24 tk hr rfl T.g_24 T.f_24.kp T.n_24 (da_cons (de_v 2) (da_cons (de_v 3) da_nil)) (ALen.cons (ALen.cons ALen.nil))))) da_nil)) ((ALen.cons (ALen.cons ALen.nil)).line (by decide)))))))
/-- put_together -/
theorem W_29 (T : Top P K mg cls A FD) (a : All P w K mg base cls A FD n R) : FnG P w K mg base (8 * n + 7 + 1) (A 29) (FD 29) ["one", "other", "way"] (spD ⟨K, cls⟩ 3 (B_29 R)) :=
  defG_ok T.f_29 sc_29 fun cdv A' outer s H E hr => by
    have tk := takes_of (X := cxOf (L2.CX P w) P w K mg base N_29 "put_together" (defScope s_29) (A 29) cdv A' outer s H E) rfl rfl rfl rfl
    have hrG := hr
    have hr1 := hrG.less (show 8 * n + 1 ≤ 8 * n + 7 by omega)
    have hr := hrG.less (show 8 * n ≤ 8 * n + 7 by omega)
    exact (dss_cons (ds_bind (de_callG a.k_28 tk hr rfl T.g_28 T.f_28.kp T.n_28 (da_cons (de_v 0) (da_cons (de_v 1) da_nil)) (ALen.cons (ALen.cons ALen.nil))) (pg_tup rfl (pgs_cons (pg_name (i := 3) sc_29.nd rfl (by first | exact Or.inl rfl | exact Or.inr rfl)) (pgs_cons (pg_name (i := 4) sc_29.nd rfl (by first | exact Or.inl rfl | exact Or.inr rfl)) pgs_nil)))) (dss_cons (ds_setC (ps_comp (i := 5) (own := [("number", 6)]) (p := (.nm 6)) (ι := (iR1 (eOp dAdd (eV 3) (eV 4)))) (τ := tTrue) (ε := C_29_1 R) rfl sc_29.nd rfl rfl (sw_true rfl rfl rfl (by decide +kernel)) (di_r1 rfl T.b_range (de_add (de_o (de_v 3)) (de_o (de_v 4)))) (blkOk_by (N := N_29) (sc := defScope s_29) (own := [("number", 6)]) (by decide +kernel)) (by decide) (fun _ _ _ _ _ => (pg_name (i := 6) sc_29.nd rfl (by first | exact Or.inl rfl | exact Or.inr rfl))) (fun _ _ _ _ _ => dts_nil) (fun _ _ _ _ _ => (de_callL (i := 2) (lam_all a) takes0 hr rfl (by first | exact Or.inl rfl | exact Or.inr (Or.inl rfl) | exact Or.inr (Or.inr rfl)) (da_cons (de_callG a.k_27 takes0 hr rfl T.g_27 T.f_27.kp T.n_27 (da_cons (de_v 0) (da_cons (de_v 6) da_nil)) (ALen.cons (ALen.cons ALen.nil))) (da_cons (de_callG a.k_27 takes0 hr rfl T.g_27 T.f_27.kp T.n_27 (da_cons (de_v 1) (da_cons (de_v 6) da_nil)) (ALen.cons (ALen.cons ALen.nil))) da_nil)) (ALen.cons (ALen.cons ALen.nil)))))) (dss_one (ds_ret (de_callG a.k_26 tk hr rfl T.g_26 T.f_26.kp T.n_26 (da_cons (de_cut (de_o (de_v 5)) dp_no (dp_so (de_v 3))) (da_cons (de_cut (de_o (de_v 5)) (dp_so (de_v 3)) dp_no) da_nil)) (ALen.cons (ALen.cons ALen.nil)))))))
/-- union -/
theorem W_30 (T : Top P K mg cls A FD) (B : Bs mg base cls FD) (a : All P w K mg base cls A FD n R) : FnG P w K mg base (8 * n + 7 + 1) (A 30) (FD 30) ["one", "other"] (spD ⟨K, cls⟩ 2 (B_30 R)) :=
  B.ex_30.elim fun cdc ec => defC_ok T.f_30 ec sc_30 fun A' outer s H E hr => by
    let cdv : Value := .ref cdc
    have tk := takes_of (X := cxOf (L2.CX P w) P w K mg base N_30 "union" (defScope s_30) (A 30) cdv A' outer s H E) rfl rfl rfl rfl
    have hrG := hr
    have hr1 := hrG.less (show 8 * n + 1 ≤ 8 * n + 7 by omega)
    have hr := hrG.less (show 8 * n ≤ 8 * n + 7 by omega)
    exact (dss_one (ds_ret (de_callG a.k_29 tk hr rfl T.g_29 T.f_29.kp T.n_29 (da_cons (de_v 0) (da_cons (de_v 1) (da_cons (de_lam 1 B.bm rfl rfl rfl (B.cd_30 ec) B.nz_30 rfl B.un_30 rfl) da_nil))) (ALen.cons (ALen.cons (ALen.cons ALen.nil))))))
/-- common -/
theorem W_31 (T : Top P K mg cls A FD) (B : Bs mg base cls FD) (a : All P w K mg base cls A FD n R) : FnG P w K mg base (8 * n + 7 + 1) (A 31) (FD 31) ["one", "other"] (spD ⟨K, cls⟩ 2 (B_31 R)) :=
  B.ex_31.elim fun cdc ec => defC_ok T.f_31 ec sc_31 fun A' outer s H E hr => by
    let cdv : Value := .ref cdc
    have tk := takes_of (X := cxOf (L2.CX P w) P w K mg base N_31 "common" (defScope s_31) (A 31) cdv A' outer s H E) rfl rfl rfl rfl
    have hrG := hr
    have hr1 := hrG.less (show 8 * n + 1 ≤ 8 * n + 7 by omega)
    have hr := hrG.less (show 8 * n ≤ 8 * n + 7 by omega)
    exact (dss_one (ds_ret (de_callG a.k_29 tk hr rfl T.g_29 T.f_29.kp T.n_29 (da_cons (de_v 0) (da_cons (de_v 1) (da_cons (de_lam 2 B.bm rfl rfl rfl (B.cd_31 ec) B.nz_31 rfl B.un_31 rfl) da_nil))) (ALen.cons (ALen.cons (ALen.cons ALen.nil))))))
/-- difference -/
theorem W_32 (T : Top P K mg cls A FD) (B : Bs mg base cls FD) (a : All P w K mg base cls A FD n R) : FnG P w K mg base (8 * n + 7 + 1) (A 32) (FD 32) ["one", "other"] (spD ⟨K, cls⟩ 2 (B_32 R)) :=
  B.ex_32.elim fun cdc ec => defC_ok T.f_32 ec sc_32 fun A' outer s H E hr => by
    let cdv : Value := .ref cdc
    have tk := takes_of (X := cxOf (L2.CX P w) P w K mg base N_32 "difference" (defScope s_32) (A 32) cdv A' outer s H E) rfl rfl rfl rfl
    have hrG := hr
    have hr1 := hrG.less (show 8 * n + 1 ≤ 8 * n + 7 by omega)
    have hr := hrG.less (show 8 * n ≤ 8 * n + 7 by omega)
    exact (dss_one (ds_ret (de_callG a.k_29 tk hr rfl T.g_29 T.f_29.kp T.n_29 (da_cons (de_v 0) (da_cons (de_v 1) (da_cons (de_lam 3 B.bm rfl rfl rfl (B.cd_32 ec) B.nz_32 rfl B.un_32 rfl) da_nil))) (ALen.cons (ALen.cons (ALen.cons ALen.nil))))))
/-- complement -/
theorem W_33 (T : Top P K mg cls A FD) (a : All P w K mg base cls A FD n R) : FnG P w K mg base (8 * n + 7 + 1) (A 33) (FD 33) ["one"] (spD ⟨K, cls⟩ 1 (B_33 R)) :=
  defG_ok T.f_33 sc_33 fun cdv A' outer s H E hr => by
    have tk := takes_of (X := cxOf (L2.CX P w) P w K mg base N_33 "complement" (defScope s_33) (A 33) cdv A' outer s H E) rfl rfl rfl rfl
    have hrG := hr
    have hr1 := hrG.less (show 8 * n + 1 ≤ 8 * n + 7 by omega)
    have hr := hrG.less (show 8 * n ≤ 8 * n + 7 by omega)
    exact (dss_one (ds_ret (de_callG a.k_32 tk hr rfl T.g_32 T.f_32.kp T.n_32 (da_cons (de_gnest T.c_ALL) (da_cons (de_v 0) da_nil)) (ALen.cons (ALen.cons ALen.nil)))))
/-- is_empty -/
theorem W_34 (T : Top P K mg cls A FD) (a : All P w K mg base cls A FD n R) : FnG P w K mg base (8 * n + 7 + 1) (A 34) (FD 34) ["one"] (spD ⟨K, cls⟩ 1 (B_34 R)) :=
  defG_ok T.f_34 sc_34 fun cdv A' outer s H E hr => by
    have tk := takes_of (X := cxOf (L2.CX P w) P w K mg base N_34 "is_empty" (defScope s_34) (A 34) cdv A' outer s H E) rfl rfl rfl rfl
    have hrG := hr
    have hr1 := hrG.less (show 8 * n + 1 ≤ 8 * n + 7 by omega)
    have hr := hrG.less (show 8 * n ≤ 8 * n + 7 by omega)
    exact (dss_one (ds_ret (de_eq hr.units (de_o (de_v 0)) (de_o (de_gnest T.c_NONE)))))
/-- is_within -/
theorem W_35 (T : Top P K mg cls A FD) (a : All P w K mg base cls A FD n R) : FnG P w K mg base (8 * n + 7 + 1) (A 35) (FD 35) ["one", "other"] (spD ⟨K, cls⟩ 2 (B_35 R)) :=
  defG_ok T.f_35 sc_35 fun cdv A' outer s H E hr => by
    have tk := takes_of (X := cxOf (L2.CX P w) P w K mg base N_35 "is_within" (defScope s_35) (A 35) cdv A' outer s H E) rfl rfl rfl rfl
    have hrG := hr
    have hr1 := hrG.less (show 8 * n + 1 ≤ 8 * n + 7 by omega)
    have hr := hrG.less (show 8 * n ≤ 8 * n + 7 by omega)
    exact (dss_one (ds_ret (de_callG a.k_34 tk hr rfl T.g_34 T.f_34.kp T.n_34 (da_cons (de_callG a.k_32 tk hr rfl T.g_32 T.f_32.kp T.n_32 (da_cons (de_v 0) (da_cons (de_v 1) da_nil)) (ALen.cons (ALen.cons ALen.nil))) da_nil) (ALen.cons ALen.nil))))
/-- least -/
theorem W_36 (T : Top P K mg cls A FD) (a : All P w K mg base cls A FD n R) : FnG P w K mg base (8 * n + 7 + 1) (A 36) (FD 36) ["one"] (spD ⟨K, cls⟩ 1 (B_36 R)) :=
  defG_ok T.f_36 sc_36 fun cdv A' outer s H E hr => by
    have tk := takes_of (X := cxOf (L2.CX P w) P w K mg base N_36 "least" (defScope s_36) (A 36) cdv A' outer s H E) rfl rfl rfl rfl
    have hrG := hr
    have hr1 := hrG.less (show 8 * n + 1 ≤ 8 * n + 7 by omega)
    have hr := hrG.less (show 8 * n ≤ 8 * n + 7 by omega)
    exact (dss_cons (ds_set (i := 1) sc_36.nd rfl (by first | exact Or.inl rfl | exact Or.inr rfl) (de_add (de_o (de_sub_ (de_o (de_v 0)) (de_o de_int))) (de_o (de_sub_ (de_o (de_v 0)) (de_o de_int))))) (dss_cons (ds_if (dt_notIn (de_o de_bl) (de_o (de_v 1)) rfl) (dss_one (ds_ret de_non)) dss_nil) (dss_one (ds_ret (de_ixB (de_v 1) de_bl)))))
/-- single -/
theorem W_37 (T : Top P K mg cls A FD) (a : All P w K mg base cls A FD n R) : FnG P w K mg base (8 * n + 7 + 1) (A 37) (FD 37) ["number"] (spD ⟨K, cls⟩ 1 (B_37 R)) :=
  defG_ok T.f_37 sc_37 fun cdv A' outer s H E hr => by
    have tk := takes_of (X := cxOf (L2.CX P w) P w K mg base N_37 "single" (defScope s_37) (A 37) cdv A' outer s H E) rfl rfl rfl rfl
    have hrG := hr
    have hr1 := hrG.less (show 8 * n + 1 ≤ 8 * n + 7 by omega)
    have hr := hrG.less (show 8 * n ≤ 8 * n + 7 by omega)
    exact (dss_one (ds_ret (de_callG a.k_26 tk hr rfl T.g_26 T.f_26.kp T.n_26 (da_cons (de_add (de_o (de_mulT (de_o (de_tup (da_cons de_bl da_nil) ((ALen.cons ALen.nil).line (by decide)))) (de_o (de_v 0)))) (de_o (de_tup (da_cons de_bl da_nil) ((ALen.cons ALen.nil).line (by decide))))) (da_cons (de_tup (da_cons de_bl da_nil) ((ALen.cons ALen.nil).line (by decide))) da_nil)) (ALen.cons (ALen.cons ALen.nil)))))
/-- moved -/
theorem W_38 (T : Top P K mg cls A FD) (a : All P w K mg base cls A FD n R) : FnG P w K mg base (8 * n + 7 + 1) (A 38) (FD 38) ["one", "offset"] (spD ⟨K, cls⟩ 2 (B_38 R)) :=
  defG_ok T.f_38 sc_38 fun cdv A' outer s H E hr => by
    have tk := takes_of (X := cxOf (L2.CX P w) P w K mg base N_38 "moved" (defScope s_38) (A 38) cdv A' outer s H E) rfl rfl rfl rfl
    have hrG := hr
    have hr1 := hrG.less (show 8 * n + 1 ≤ 8 * n + 7 by omega)
    have hr := hrG.less (show 8 * n ≤ 8 * n + 7 by omega)
    exact (dss_one (ds_ret (de_callG a.k_26 tk hr rfl T.g_26 T.f_26.kp T.n_26 (da_cons (de_add (de_o (de_mulT (de_o (de_tup (da_cons de_bl da_nil) ((ALen.cons ALen.nil).line (by decide)))) (de_o (de_v 1)))) (de_o (de_sub_ (de_o (de_v 0)) (de_o de_int)))) (da_cons (de_sub_ (de_o (de_v 0)) (de_o de_int)) da_nil)) (ALen.cons (ALen.cons ALen.nil)))))
/-- range_set -/
theorem W_39 (T : Top P K mg cls A FD) (a : All P w K mg base cls A FD n R) : FnG P w K mg base (8 * n + 7 + 1) (A 39) (FD 39) ["low", "high"] (spD ⟨K, cls⟩ 2 (B_39 R)) :=
  defG_ok T.f_39 sc_39 fun cdv A' outer s H E hr => by
    have tk := takes_of (X := cxOf (L2.CX P w) P w K mg base N_39 "range_set" (defScope s_39) (A 39) cdv A' outer s H E) rfl rfl rfl rfl
    have hrG := hr
    have hr1 := hrG.less (show 8 * n + 1 ≤ 8 * n + 7 by omega)
    have hr := hrG.less (show 8 * n ≤ 8 * n + 7 by omega)
    exact (dss_one (ds_ret (de_callG a.k_26 tk hr rfl T.g_26 T.f_26.kp T.n_26 (da_cons (de_add (de_o (de_mulT (de_o (de_tup (da_cons de_bl da_nil) ((ALen.cons ALen.nil).line (by decide)))) (de_o (de_v 0)))) (de_o (de_mulT (de_o (de_tup (da_cons de_bl da_nil) ((ALen.cons ALen.nil).line (by decide)))) (de_o (de_add (de_o (de_sub (de_o (de_v 1)) (de_o (de_v 0)))) (de_o de_int)))))) (da_cons (de_tup (da_cons de_bl da_nil) ((ALen.cons ALen.nil).line (by decide))) da_nil)) (ALen.cons (ALen.cons ALen.nil)))))
/-- _law_cell -/
theorem W_1000 (T : Top P K mg cls A FD) (a : All P w K mg base cls A FD n R) : FnG P w K mg base (8 * n + 7 + 1) (A 1000) (FD 1000) ["_law_script", "_law_k"] (spD ⟨K, cls⟩ 2 (B_1000 R)) :=
  defG_ok T.f_1000 sc_1000 fun cdv A' outer s H E hr => by
    have tk := takes_of (X := cxOf (L2.CX P w) P w K mg base N_1000 "_law_cell" (defScope s_1000) (A 1000) cdv A' outer s H E) rfl rfl rfl rfl
    have hrG := hr
    have hr1 := hrG.less (show 8 * n + 1 ≤ 8 * n + 7 by omega)
    have hr := hrG.less (show 8 * n ≤ 8 * n + 7 by omega)
    exact (dss_cons (ds_if (dt_lt (de_o (de_v 1)) (de_o (de_len rfl T.b_len (de_o (de_v 0))))) (dss_one (ds_ret (de_sub_ (de_o (de_v 0)) (de_o (de_v 1))))) dss_nil) (dss_one (ds_ret de_int)))
/-- _law_digits -/
theorem W_1001 (T : Top P K mg cls A FD) (a : All P w K mg base cls A FD n R) : FnG P w K mg base (8 * n + 7 + 1) (A 1001) (FD 1001) ["_law_script", "_law_first", "_law_last"] (spD ⟨K, cls⟩ 3 (B_1001 R)) :=
  defG_ok T.f_1001 sc_1001 fun cdv A' outer s H E hr => by
    have tk := takes_of (X := cxOf (L2.CX P w) P w K mg base N_1001 "_law_digits" (defScope s_1001) (A 1001) cdv A' outer s H E) rfl rfl rfl rfl
    have hrG := hr
    have hr1 := hrG.less (show 8 * n + 1 ≤ 8 * n + 7 by omega)
    have hr := hrG.less (show 8 * n ≤ 8 * n + 7 by omega)
    exact (dss_cons (ds_own (i := 3) sc_1001.nd rfl (by first | exact Or.inl rfl | exact Or.inr rfl) (df_lst da_nil ((ALen.nil).line (by decide)))) (dss_cons (ds_for (passes_of rfl) rfl (di_r2 rfl T.b_range (de_v 1) (de_v 2)) (pg_name (i := 4) sc_1001.nd rfl (by first | exact Or.inl rfl | exact Or.inr rfl)) (dss_cons (ds_set (i := 5) sc_1001.nd rfl (by first | exact Or.inl rfl | exact Or.inr rfl) (de_callG a.k_1000 tk hr rfl T.g_1000 T.f_1000.kp T.n_1000 (da_cons (de_v 0) (da_cons (de_v 4) da_nil)) (ALen.cons (ALen.cons ALen.nil)))) (dss_cons (ds_if (dt_lt (de_o (de_v 5)) (de_o de_int)) (dss_one (ds_set (i := 5) sc_1001.nd rfl (by first | exact Or.inl rfl | exact Or.inr rfl) (de_sub (de_o de_int) (de_o (de_mul (de_o de_int) (de_o (de_v 5))))))) dss_nil) (dss_one (ds_if (dt_ge (de_o (de_v 5)) (de_o (de_pow (de_o de_int) (de_o de_int)))) (dss_one (ds_for (passes_of rfl) rfl (di_r1 rfl T.b_range de_int) (pg_name (i := 6) sc_1001.nd rfl (by first | exact Or.inl rfl | exact Or.inr rfl)) (dss_one (ds_if (dt_gt (de_o (de_v 5)) (de_o de_int)) (dss_cons (ds_appO 3 (pe_bm PySem.F.plainAttrs_list PySem.F.slot_list_append PySem.F.type_list_append mt_append (pv 3) (pa_cons (de_mod (de_o (de_intc rfl T.b_int (de_o (de_v 5)))) (de_o de_int)) pa_nil))) (dss_one (ds_set (i := 5) sc_1001.nd rfl (by first | exact Or.inl rfl | exact Or.inr rfl) (de_div (de_o (de_v 5)) (de_o de_int))))) dss_nil)))) (dss_cons (ds_set (i := 7) sc_1001.nd rfl (by first | exact Or.inl rfl | exact Or.inr rfl) (de_mod (de_o (de_intc rfl T.b_int (de_o (de_add (de_o (de_add (de_o (de_mul (de_o (de_v 5)) (de_o de_int))) (de_o (de_mul (de_o (de_v 4)) (de_o de_int))))) (de_o de_int))))) (de_o de_int))) (dss_clr [6] (dss_one (ds_for (passes_of rfl) rfl (di_r1 rfl T.b_range de_int) (pg_name (i := 6) sc_1001.nd rfl (by first | exact Or.inl rfl | exact Or.inr rfl)) (dss_cons (ds_set (i := 7) sc_1001.nd rfl (by first | exact Or.inl rfl | exact Or.inr rfl) (de_mod (de_o (de_intc rfl T.b_int (de_o (de_add (de_o (de_add (de_o (de_mul (de_o (de_v 7)) (de_o de_int))) (de_o (de_mul (de_o de_int) (de_o (de_v 6)))))) (de_o de_int))))) (de_o de_int))) (dss_one (ds_appO 3 (pe_bm PySem.F.plainAttrs_list PySem.F.slot_list_append PySem.F.type_list_append mt_append (pv 3) (pa_cons (de_mod (de_o (de_intc rfl T.b_int (de_o (de_div (de_o (de_v 7)) (de_o de_int))))) (de_o de_int)) pa_nil)))))))))))))) (dss_one (ds_retO 3))))
/-- _law_draw -/
theorem W_1002 (T : Top P K mg cls A FD) (a : All P w K mg base cls A FD n R) : FnG P w K mg base (8 * n + 7 + 1) (A 1002) (FD 1002) ["_law_box", "_law_many"] (spD ⟨K, cls⟩ 2 (B_1002 R)) :=
  defG_ok T.f_1002 sc_1002 fun cdv A' outer s H E hr => by
    have tk := takes_of (X := cxOf (L2.CX P w) P w K mg base N_1002 "_law_draw" (defScope s_1002) (A 1002) cdv A' outer s H E) rfl rfl rfl rfl
    have hrG := hr
    have hr1 := hrG.less (show 8 * n + 1 ≤ 8 * n + 7 by omega)
    have hr := hrG.less (show 8 * n ≤ 8 * n + 7 by omega)
    exact (dss_cons (ds_set (i := 2) sc_1002.nd rfl (by first | exact Or.inl rfl | exact Or.inr rfl) (de_sub_ (de_o (de_v 0)) (de_o de_int))) (dss_cons (ds_setP (pg_sub (de_v 0) de_int set_list) (de_add (de_o (de_v 2)) (de_o de_int))) (dss_cons (ds_if (dt_lt (de_o (de_v 2)) (de_o (de_len rfl T.b_len (de_o (de_sub_ (de_o (de_v 0)) (de_o de_int)))))) (dss_one (ds_ret (de_mod (de_o (de_intc rfl T.b_int (de_o (de_sub_ (de_o (de_sub_ (de_o (de_v 0)) (de_o de_int))) (de_o (de_v 2)))))) (de_o (de_v 1))))) dss_nil) (dss_one (ds_ret de_int)))))
/-- _law_row -/
theorem W_1003 (T : Top P K mg cls A FD) (a : All P w K mg base cls A FD n R) : FnG P w K mg base (8 * n + 7 + 1) (A 1003) (FD 1003) ["_law_box", "_law_most"] (spD ⟨K, cls⟩ 2 (B_1003 R)) :=
  defG_ok T.f_1003 sc_1003 fun cdv A' outer s H E hr => by
    have tk := takes_of (X := cxOf (L2.CX P w) P w K mg base N_1003 "_law_row" (defScope s_1003) (A 1003) cdv A' outer s H E) rfl rfl rfl rfl
    have hrG := hr
    have hr1 := hrG.less (show 8 * n + 1 ≤ 8 * n + 7 by omega)
    have hr := hrG.less (show 8 * n ≤ 8 * n + 7 by omega)
    exact (dss_one (ds_ret (de_tuple rfl T.b_tuple (df_o (df_comp (own := [("_law_k", 2)]) (p := (.nm 2)) (ι := (iR1 (eCall (R 1002) (aCons (eV 0) (aCons (eV 1) aNil))))) (τ := tTrue) (ε := C_1003_1 R) rfl sc_1003.nd (di_r1 rfl T.b_range (de_callG a.k_1002 tk hr rfl T.g_1002 T.f_1002.kp T.n_1002 (da_cons (de_v 0) (da_cons (de_v 1) da_nil)) (ALen.cons (ALen.cons ALen.nil)))) (blkOk_by (N := N_1003) (sc := defScope s_1003) (own := [("_law_k", 2)]) (by decide +kernel)) (by decide) (fun _ _ _ _ _ => (pg_name (i := 2) sc_1003.nd rfl (by first | exact Or.inl rfl | exact Or.inr rfl))) (fun _ _ _ _ _ => dts_nil) (fun _ _ _ _ _ => (de_eq hr.units (de_o (de_callG a.k_1002 takes0 hr rfl T.g_1002 T.f_1002.kp T.n_1002 (da_cons (de_v 0) (da_cons de_int da_nil)) (ALen.cons (ALen.cons ALen.nil)))) (de_o de_int))))))))
/-- _law_far -/
theorem W_1005 (T : Top P K mg cls A FD) (a : All P w K mg base cls A FD n R) : FnG P w K mg base (8 * n + 7 + 1) (A 1005) (FD 1005) ["_law_box"] (spD ⟨K, cls⟩ 1 (B_1005 R)) :=
  defG_ok T.f_1005 sc_1005 fun cdv A' outer s H E hr => by
    have tk := takes_of (X := cxOf (L2.CX P w) P w K mg base N_1005 "_law_far" (defScope s_1005) (A 1005) cdv A' outer s H E) rfl rfl rfl rfl
    have hrG := hr
    have hr1 := hrG.less (show 8 * n + 1 ≤ 8 * n + 7 by omega)
    have hr := hrG.less (show 8 * n ≤ 8 * n + 7 by omega)
    exact (dss_one (ds_ret (de_sub_ (df_o (df_lst (da_cons (de_callG a.k_1002 tk hr rfl T.g_1002 T.f_1002.kp T.n_1002 (da_cons (de_v 0) (da_cons de_int da_nil)) (ALen.cons (ALen.cons ALen.nil))) (da_cons (de_callG a.k_1002 tk hr rfl T.g_1002 T.f_1002.kp T.n_1002 (da_cons (de_v 0) (da_cons de_int da_nil)) (ALen.cons (ALen.cons ALen.nil))) (da_cons (de_add (de_o (de_mul (de_o (de_callG a.k_1002 tk hr rfl T.g_1002 T.f_1002.kp T.n_1002 (da_cons (de_v 0) (da_cons de_int da_nil)) (ALen.cons (ALen.cons ALen.nil)))) (de_o de_int))) (de_o (de_callG a.k_1002 tk hr rfl T.g_1002 T.f_1002.kp T.n_1002 (da_cons (de_v 0) (da_cons de_int da_nil)) (ALen.cons (ALen.cons ALen.nil))))) da_nil))) ((ALen.cons (ALen.cons (ALen.cons ALen.nil))).line (by decide)))) (de_o (de_callG a.k_1002 tk hr rfl T.g_1002 T.f_1002.kp T.n_1002 (da_cons (de_v 0) (da_cons de_int da_nil)) (ALen.cons (ALen.cons ALen.nil)))))))
/-- law -/
theorem W_1006 (T : Top P K mg cls A FD) (a : All P w K mg base cls A FD n R) : FnG P w K mg base (8 * n + 7 + 1) (A 1006) (FD 1006) ["_law_script"] (spD ⟨K, cls⟩ 1 (B_1006 R)) :=
  defG_ok T.f_1006 sc_1006 fun cdv A' outer s H E hr => by
    have tk := takes_of (X := cxOf (L2.CX P w) P w K mg base N_1006 "law" (defScope s_1006) (A 1006) cdv A' outer s H E) rfl rfl rfl rfl
    have hrG := hr
    have hr1 := hrG.less (show 8 * n + 1 ≤ 8 * n + 7 by omega)
    have hr := hrG.less (show 8 * n ≤ 8 * n + 7 by omega)
    exact (dss_cons (ds_set (i := 1) sc_1006.nd rfl (by first | exact Or.inl rfl | exact Or.inr rfl) (de_box (df_lst (da_cons (de_callG a.k_1001 tk hr rfl T.g_1001 T.f_1001.kp T.n_1001 (da_cons (de_v 0) (da_cons de_int (da_cons de_int da_nil))) (ALen.cons (ALen.cons (ALen.cons ALen.nil)))) (da_cons de_int da_nil)) ((ALen.cons (ALen.cons ALen.nil)).line (by decide))))) (dss_cons (ds_set (i := 2) sc_1006.nd rfl (by first | exact Or.inl rfl | exact Or.inr rfl) (de_callG a.k_26 tk hr rfl T.g_26 T.f_26.kp T.n_26 (da_cons (de_callG a.k_1003 tk hr rfl T.g_1003 T.f_1003.kp T.n_1003 (da_cons (de_v 1) (da_cons de_int da_nil)) (ALen.cons (ALen.cons ALen.nil))) (da_cons (de_add (de_o (de_tup (da_cons (de_eq hr.units (de_o (de_callG a.k_1002 tk hr rfl T.g_1002 T.f_1002.kp T.n_1002 (da_cons (de_v 1) (da_cons de_int da_nil)) (ALen.cons (ALen.cons ALen.nil)))) (de_o de_int)) da_nil) ((ALen.cons ALen.nil).line (by decide)))) (de_o (de_callG a.k_1003 tk hr rfl T.g_1003 T.f_1003.kp T.n_1003 (da_cons (de_v 1) (da_cons de_int da_nil)) (ALen.cons (ALen.cons ALen.nil))))) da_nil)) (ALen.cons (ALen.cons ALen.nil)))) (dss_cons (ds_set (i := 3) sc_1006.nd rfl (by first | exact Or.inl rfl | exact Or.inr rfl) (de_callG a.k_26 tk hr rfl T.g_26 T.f_26.kp T.n_26 (da_cons (de_callG a.k_1003 tk hr rfl T.g_1003 T.f_1003.kp T.n_1003 (da_cons (de_v 1) (da_cons de_int da_nil)) (ALen.cons (ALen.cons ALen.nil))) (da_cons (de_add (de_o (de_tup (da_cons (de_eq hr.units (de_o (de_callG a.k_1002 tk hr rfl T.g_1002 T.f_1002.kp T.n_1002 (da_cons (de_v 1) (da_cons de_int da_nil)) (ALen.cons (ALen.cons ALen.nil)))) (de_o de_int)) da_nil) ((ALen.cons ALen.nil).line (by decide)))) (de_o (de_callG a.k_1003 tk hr rfl T.g_1003 T.f_1003.kp T.n_1003 (da_cons (de_v 1) (da_cons de_int da_nil)) (ALen.cons (ALen.cons ALen.nil))))) da_nil)) (ALen.cons (ALen.cons ALen.nil)))) (dss_cons (ds_set (i := 4) sc_1006.nd rfl (by first | exact Or.inl rfl | exact Or.inr rfl) (df_e (df_lst (da_cons (de_callG a.k_30 tk hr rfl T.g_30 T.f_30.kp T.n_30 (da_cons (de_v 2) (da_cons (de_v 3) da_nil)) (ALen.cons (ALen.cons ALen.nil))) (da_cons (de_callG a.k_31 tk hr rfl T.g_31 T.f_31.kp T.n_31 (da_cons (de_v 2) (da_cons (de_v 3) da_nil)) (ALen.cons (ALen.cons ALen.nil))) (da_cons (de_callG a.k_32 tk hr rfl T.g_32 T.f_32.kp T.n_32 (da_cons (de_v 2) (da_cons (de_v 3) da_nil)) (ALen.cons (ALen.cons ALen.nil))) (da_cons (de_callG a.k_33 tk hr rfl T.g_33 T.f_33.kp T.n_33 (da_cons (de_v 2) da_nil) (ALen.cons ALen.nil)) da_nil)))) ((ALen.cons (ALen.cons (ALen.cons (ALen.cons ALen.nil)))).line (by decide))))) (dss_cons (ds_set (i := 5) sc_1006.nd rfl (by first | exact Or.inl rfl | exact Or.inr rfl) de_non) (dss_cons (ds_set (i := 6) sc_1006.nd rfl (by first | exact Or.inl rfl | exact Or.inr rfl) de_bl) (dss_cons (ds_for (passes_of rfl) rfl (di_a (de_add (df_o (df_comp (own := [("_law_k", 14)]) (p := (.nm 14)) (ι := (iR1 (eC (.int 80)))) (τ := tTrue) (ε := C_1006_1 R) rfl sc_1006.nd (di_r1 rfl T.b_range de_int) (blkOk_by (N := N_1006) (sc := defScope s_1006) (own := [("_law_k", 14)]) (by decide +kernel)) (by decide) (fun _ _ _ _ _ => (pg_name (i := 14) sc_1006.nd rfl (by first | exact Or.inl rfl | exact Or.inr rfl))) (fun _ _ _ _ _ => dts_nil) (fun _ _ _ _ _ => (de_v 14)))) (df_o (df_comp (own := [("_law_k", 14)]) (p := (.nm 14)) (ι := (iR1 (eC (.int 9)))) (τ := tTrue) (ε := C_1006_2 R) rfl sc_1006.nd (di_r1 rfl T.b_range de_int) (blkOk_by (N := N_1006) (sc := defScope s_1006) (own := [("_law_k", 14)]) (by decide +kernel)) (by decide) (fun _ _ _ _ _ => (pg_name (i := 14) sc_1006.nd rfl (by first | exact Or.inl rfl | exact Or.inr rfl))) (fun _ _ _ _ _ => dts_nil) (fun _ _ _ _ _ => (de_callG a.k_1005 takes0 hr rfl T.g_1005 T.f_1005.kp T.n_1005 (da_cons (de_v 1) da_nil) (ALen.cons ALen.nil))))))) (pg_name (i := 7) sc_1006.nd rfl (by first | exact Or.inl rfl | exact Or.inr rfl)) (dss_cons (ds_set (i := 8) sc_1006.nd rfl (by first | exact Or.inl rfl | exact Or.inr rfl) (de_callG a.k_27 tk hr rfl T.g_27 T.f_27.kp T.n_27 (da_cons (de_v 2) (da_cons (de_v 7) da_nil)) (ALen.cons (ALen.cons ALen.nil)))) (dss_cons (ds_set (i := 9) sc_1006.nd rfl (by first | exact Or.inl rfl | exact Or.inr rfl) (de_callG a.k_27 tk hr rfl T.g_27 T.f_27.kp T.n_27 (da_cons (de_v 3) (da_cons (de_v 7) da_nil)) (ALen.cons (ALen.cons ALen.nil)))) (dss_cons (ds_if (dt_ne hr.units (df_o (df_comp (own := [("_law_other", 10)]) (p := (.nm 10)) (ι := (iA (eV 4))) (τ := tTrue) (ε := C_1006_3 R) rfl sc_1006.nd (di_a (de_v 4)) (blkOk_by (N := N_1006) (sc := defScope s_1006) (own := [("_law_other", 10)]) (by decide +kernel)) (by decide) (fun _ _ _ _ _ => (pg_name (i := 10) sc_1006.nd rfl (by first | exact Or.inl rfl | exact Or.inr rfl))) (fun _ _ _ _ _ => dts_nil) (fun _ _ _ _ _ => (de_callG a.k_27 takes0 hr rfl T.g_27 T.f_27.kp T.n_27 (da_cons (de_v 10) (da_cons (de_v 7) da_nil)) (ALen.cons (ALen.cons ALen.nil)))))) (df_o (df_lst (da_cons (de_or (de_v 8) (de_one (de_v 9))) (da_cons (de_and (de_v 8) (de_one (de_v 9))) (da_cons (de_and (de_v 8) (de_one (de_not (de_v 9)))) (da_cons (de_not (de_v 8)) da_nil)))) ((ALen.cons (ALen.cons (ALen.cons (ALen.cons ALen.nil)))).line (by decide))))) (dss_one (ds_ret de_bl)) dss_nil) (dss_cons (ds_if (dw_t (dw_and (dt_tru (de_o (de_v 8))) (dw_and1 (dt_isN (de_o (de_v 5)) (de_o de_non))))) (dss_one (ds_set (i := 5) sc_1006.nd rfl (by first | exact Or.inl rfl | exact Or.inr rfl) (de_v 7))) dss_nil) (dss_one (ds_if (dw_t (dw_and (dt_tru (de_o (de_v 8))) (dw_and1 (dt_not (dt_tru (de_o (de_v 9))))))) (dss_one (ds_set (i := 6) sc_1006.nd rfl (by first | exact Or.inl rfl | exact Or.inr rfl) de_bl)) dss_nil))))))) (dss_clr [10] (dss_cons (ds_for (passes_of rfl) rfl (di_a (de_v 4)) (pg_name (i := 10) sc_1006.nd rfl (by first | exact Or.inl rfl | exact Or.inr rfl)) (dss_one (ds_if (dt_ne hr.units (de_o (de_callG a.k_26 tk hr rfl T.g_26 T.f_26.kp T.n_26 (da_cons (de_sub_ (de_o (de_v 10)) (de_o de_int)) (da_cons (de_sub_ (de_o (de_v 10)) (de_o de_int)) da_nil)) (ALen.cons (ALen.cons ALen.nil)))) (de_o (de_v 10))) (dss_one (ds_ret de_bl)) dss_nil))) (dss_cons (ds_if (dw_t (dw_or (dt_ne hr.units (de_o (de_callG a.k_36 tk hr rfl T.g_36 T.f_36.kp T.n_36 (da_cons (de_v 2) da_nil) (ALen.cons ALen.nil))) (de_o (de_v 5))) (dw_or (dt_ne hr.units (de_o (de_callG a.k_34 tk hr rfl T.g_34 T.f_34.kp T.n_34 (da_cons (de_v 2) da_nil) (ALen.cons ALen.nil))) (de_o (de_isN (de_o (de_v 5)) (de_o de_non)))) (dw_or1 (dt_ne hr.units (de_o (de_callG a.k_35 tk hr rfl T.g_35 T.f_35.kp T.n_35 (da_cons (de_v 2) (da_cons (de_v 3) da_nil)) (ALen.cons (ALen.cons ALen.nil)))) (de_o (de_v 6))))))) (dss_one (ds_ret de_bl)) dss_nil) (dss_cons (ds_if (dw_t (dw_or (dt_not (dt_tru (de_o (de_callG a.k_34 tk hr rfl T.g_34 T.f_34.kp T.n_34 (da_cons (de_gnest T.c_NONE) da_nil) (ALen.cons ALen.nil))))) (dw_or1 (dt_notB (de_o (de_callG a.k_27 tk hr rfl T.g_27 T.f_27.kp T.n_27 (da_cons (de_gnest T.c_ALL) (da_cons (de_callG a.k_1005 tk hr rfl T.g_1005 T.f_1005.kp T.n_1005 (da_cons (de_v 1) da_nil) (ALen.cons ALen.nil)) da_nil)) (ALen.cons (ALen.cons ALen.nil)))) (de_o de_bl))))) (dss_one (ds_ret de_bl)) dss_nil) (dss_cons (ds_set (i := 11) sc_1006.nd rfl (by first | exact Or.inl rfl | exact Or.inr rfl) (de_callG a.k_1002 tk hr rfl T.g_1002 T.f_1002.kp T.n_1002 (da_cons (de_v 1) (da_cons de_int da_nil)) (ALen.cons (ALen.cons ALen.nil)))) (dss_cons (ds_set (i := 12) sc_1006.nd rfl (by first | exact Or.inl rfl | exact Or.inr rfl) (de_add (de_o (de_v 11)) (de_o (de_callG a.k_1002 tk hr rfl T.g_1002 T.f_1002.kp T.n_1002 (da_cons (de_v 1) (da_cons de_int da_nil)) (ALen.cons (ALen.cons ALen.nil)))))) (dss_cons (ds_set (i := 13) sc_1006.nd rfl (by first | exact Or.inl rfl | exact Or.inr rfl) (de_callG a.k_1002 tk hr rfl T.g_1002 T.f_1002.kp T.n_1002 (da_cons (de_v 1) (da_cons de_int da_nil)) (ALen.cons (ALen.cons ALen.nil)))) (dss_clr [7] (dss_cons (ds_for (passes_of rfl) rfl (di_r1 rfl T.b_range de_int) (pg_name (i := 7) sc_1006.nd rfl (by first | exact Or.inl rfl | exact Or.inr rfl)) (dss_cons (ds_if (dw_t (dw_or (dt_ne hr.units (de_o (de_callG a.k_27 tk hr rfl T.g_27 T.f_27.kp T.n_27 (da_cons (de_callG a.k_39 tk hr rfl T.g_39 T.f_39.kp T.n_39 (da_cons (de_v 11) (da_cons (de_v 12) da_nil)) (ALen.cons (ALen.cons ALen.nil))) (da_cons (de_v 7) da_nil)) (ALen.cons (ALen.cons ALen.nil)))) (de_o (de_chain (de_o (de_v 11)) (de_o (de_v 7)) (de_o (de_v 12))))) (dw_or1 (dt_ne hr.units (de_o (de_callG a.k_27 tk hr rfl T.g_27 T.f_27.kp T.n_27 (da_cons (de_callG a.k_37 tk hr rfl T.g_37 T.f_37.kp T.n_37 (da_cons (de_v 11) da_nil) (ALen.cons ALen.nil)) (da_cons (de_v 7) da_nil)) (ALen.cons (ALen.cons ALen.nil)))) (de_o (de_eq hr.units (de_o (de_v 7)) (de_o (de_v 11)))))))) (dss_one (ds_ret de_bl)) dss_nil) (dss_one (ds_if (dt_ne hr.units (de_o (de_callG a.k_27 tk hr rfl T.g_27 T.f_27.kp T.n_27 (da_cons (de_callG a.k_38 tk hr rfl T.g_38 T.f_38.kp T.n_38 (da_cons (de_v 2) (da_cons (de_v 13) da_nil)) (ALen.cons (ALen.cons ALen.nil))) (da_cons (de_v 7) da_nil)) (ALen.cons (ALen.cons ALen.nil)))) (de_o (de_and (de_ge (de_o (de_v 7)) (de_o (de_v 13))) (de_one (de_callG a.k_27 tk hr rfl T.g_27 T.f_27.kp T.n_27 (da_cons (de_v 2) (da_cons (de_max rfl T.b_max rfl (de_o de_int) (de_o (de_sub (de_o (de_v 7)) (de_o (de_v 13))))) da_nil)) (ALen.cons (ALen.cons ALen.nil))))))) (dss_one (ds_ret de_bl)) dss_nil)))) (dss_one (ds_ret de_bl))))))))))))))))))
theorem all (T : Top P K mg cls A FD) (B : Bs mg base cls FD) : ∀ n, All P w K mg base cls A FD n (run n)
  | 0 => ⟨fnG_stuck fun _ _ => rfl, fnG_stuck fun _ _ => rfl, fnG_stuck fun _ _ => rfl, fnG_stuck fun _ _ => rfl, fnG_stuck fun _ _ => rfl, fnG_stuck fun _ _ => rfl, fnG_stuck fun _ _ => rfl, fnG_stuck fun _ _ => rfl, fnG_stuck fun _ _ => rfl, fnG_stuck fun _ _ => rfl, fnG_stuck fun _ _ => rfl, fnG_stuck fun _ _ => rfl, fnG_stuck fun _ _ => rfl, fnG_stuck fun _ _ => rfl, fnG_stuck fun _ _ => rfl, fnG_stuck fun _ _ => rfl, fnG_stuck fun _ _ => rfl, fnG_stuck fun _ _ => rfl, fnG_stuck fun _ _ => rfl, fnG_stuck fun _ _ => rfl, fnG_stuck fun _ _ => rfl, fnG_stuck fun _ _ => rfl, lmG_stuck fun _ _ => rfl, lmG_stuck fun _ _ => rfl, lmG_stuck fun _ _ => rfl⟩
  | n + 1 => ⟨W_24 T (all T B n), W_25 T (all T B n), W_26 T (all T B n), W_27 T (all T B n), W_28 T (all T B n), W_29 T (all T B n), W_30 T B (all T B n), W_31 T B (all T B n), W_32 T B (all T B n), W_33 T (all T B n), W_34 T (all T B n), W_35 T (all T B n), W_36 T (all T B n), W_37 T (all T B n), W_38 T (all T B n), W_39 T (all T B n), W_1000 T (all T B n), W_1001 T (all T B n), W_1002 T (all T B n), W_1003 T (all T B n), W_1005 T (all T B n), W_1006 T (all T B n), W_5001 T (all T B n), W_5002 T (all T B n), W_5003 T (all T B n)⟩
end
theorem all_mk {l : PySem.W.OpenLaw} {w : World} {K : PySem.W.Frag} {h : Heap} {mg : Str → Option Value} {fa : Addr} (X : K.In h) (G : h.Ns mainGlobals mg) (hfa : mg "law" = some (.ref fa))
    {f24 : Addr} {od24 an24 : Option Addr} {sl24 : Array (Option Value)} {oc24 kV24 dc24 pm24 cd24 ct24 : Value}
    (a24 : PySem.W.nsIn K mainGlobals "common_divisor" = some (some (.ref f24))) (l24 : K.lookup f24 = some ⟨oc24, od24, .func (PySem.W.fnOf "common_divisor" "common_divisor" (defArgs s_24) (defBody s_24) (defScope s_24) .none kV24 dc24 pm24 an24 cd24 ct24), sl24⟩) (c24 : PySem.W.codeIn K cd24 "common_divisor" = true) (k24 : PySem.W.keepIn K (.ref f24) = true)
    {f25 : Addr} {od25 an25 : Option Addr} {sl25 : Array (Option Value)} {oc25 kV25 dc25 pm25 cd25 ct25 : Value}
    (a25 : PySem.W.nsIn K mainGlobals "shortest_cycle" = some (some (.ref f25))) (l25 : K.lookup f25 = some ⟨oc25, od25, .func (PySem.W.fnOf "shortest_cycle" "shortest_cycle" (defArgs s_25) (defBody s_25) (defScope s_25) .none kV25 dc25 pm25 an25 cd25 ct25), sl25⟩) (c25 : PySem.W.codeIn K cd25 "shortest_cycle" = true) (k25 : PySem.W.keepIn K (.ref f25) = true)
    {f26 : Addr} {od26 an26 : Option Addr} {sl26 : Array (Option Value)} {oc26 kV26 dc26 pm26 cd26 ct26 : Value}
    (a26 : PySem.W.nsIn K mainGlobals "settled" = some (some (.ref f26))) (l26 : K.lookup f26 = some ⟨oc26, od26, .func (PySem.W.fnOf "settled" "settled" (defArgs s_26) (defBody s_26) (defScope s_26) .none kV26 dc26 pm26 an26 cd26 ct26), sl26⟩) (c26 : PySem.W.codeIn K cd26 "settled" = true) (k26 : PySem.W.keepIn K (.ref f26) = true)
    {f27 : Addr} {od27 an27 : Option Addr} {sl27 : Array (Option Value)} {oc27 kV27 dc27 pm27 cd27 ct27 : Value}
    (a27 : PySem.W.nsIn K mainGlobals "contains" = some (some (.ref f27))) (l27 : K.lookup f27 = some ⟨oc27, od27, .func (PySem.W.fnOf "contains" "contains" (defArgs s_27) (defBody s_27) (defScope s_27) .none kV27 dc27 pm27 an27 cd27 ct27), sl27⟩) (c27 : PySem.W.codeIn K cd27 "contains" = true) (k27 : PySem.W.keepIn K (.ref f27) = true)
    {f28 : Addr} {od28 an28 : Option Addr} {sl28 : Array (Option Value)} {oc28 kV28 dc28 pm28 cd28 ct28 : Value}
    (a28 : PySem.W.nsIn K mainGlobals "shared" = some (some (.ref f28))) (l28 : K.lookup f28 = some ⟨oc28, od28, .func (PySem.W.fnOf "shared" "shared" (defArgs s_28) (defBody s_28) (defScope s_28) .none kV28 dc28 pm28 an28 cd28 ct28), sl28⟩) (c28 : PySem.W.codeIn K cd28 "shared" = true) (k28 : PySem.W.keepIn K (.ref f28) = true)
    {f29 : Addr} {od29 an29 : Option Addr} {sl29 : Array (Option Value)} {oc29 kV29 dc29 pm29 cd29 ct29 : Value}
    (a29 : PySem.W.nsIn K mainGlobals "put_together" = some (some (.ref f29))) (l29 : K.lookup f29 = some ⟨oc29, od29, .func (PySem.W.fnOf "put_together" "put_together" (defArgs s_29) (defBody s_29) (defScope s_29) .none kV29 dc29 pm29 an29 cd29 ct29), sl29⟩) (c29 : PySem.W.codeIn K cd29 "put_together" = true) (k29 : PySem.W.keepIn K (.ref f29) = true)
    {f30 : Addr} {od30 an30 : Option Addr} {sl30 : Array (Option Value)} {oc30 kV30 dc30 pm30 ct30 : Value} {cc30 : Addr}
    (a30 : PySem.W.nsIn K mainGlobals "union" = some (some (.ref f30))) (l30 : K.lookup f30 = some ⟨oc30, od30, .func (PySem.W.fnOf "union" "union" (defArgs s_30) (defBody s_30) (defScope s_30) .none kV30 dc30 pm30 an30 (.ref cc30) ct30), sl30⟩) (c30 : PySem.W.codeIn K (.ref cc30) "union" = true) (k30 : PySem.W.keepIn K (.ref f30) = true)
    {f31 : Addr} {od31 an31 : Option Addr} {sl31 : Array (Option Value)} {oc31 kV31 dc31 pm31 ct31 : Value} {cc31 : Addr}
    (a31 : PySem.W.nsIn K mainGlobals "common" = some (some (.ref f31))) (l31 : K.lookup f31 = some ⟨oc31, od31, .func (PySem.W.fnOf "common" "common" (defArgs s_31) (defBody s_31) (defScope s_31) .none kV31 dc31 pm31 an31 (.ref cc31) ct31), sl31⟩) (c31 : PySem.W.codeIn K (.ref cc31) "common" = true) (k31 : PySem.W.keepIn K (.ref f31) = true)
    {f32 : Addr} {od32 an32 : Option Addr} {sl32 : Array (Option Value)} {oc32 kV32 dc32 pm32 ct32 : Value} {cc32 : Addr}
    (a32 : PySem.W.nsIn K mainGlobals "difference" = some (some (.ref f32))) (l32 : K.lookup f32 = some ⟨oc32, od32, .func (PySem.W.fnOf "difference" "difference" (defArgs s_32) (defBody s_32) (defScope s_32) .none kV32 dc32 pm32 an32 (.ref cc32) ct32), sl32⟩) (c32 : PySem.W.codeIn K (.ref cc32) "difference" = true) (k32 : PySem.W.keepIn K (.ref f32) = true)
    {f33 : Addr} {od33 an33 : Option Addr} {sl33 : Array (Option Value)} {oc33 kV33 dc33 pm33 cd33 ct33 : Value}
    (a33 : PySem.W.nsIn K mainGlobals "complement" = some (some (.ref f33))) (l33 : K.lookup f33 = some ⟨oc33, od33, .func (PySem.W.fnOf "complement" "complement" (defArgs s_33) (defBody s_33) (defScope s_33) .none kV33 dc33 pm33 an33 cd33 ct33), sl33⟩) (c33 : PySem.W.codeIn K cd33 "complement" = true) (k33 : PySem.W.keepIn K (.ref f33) = true)
    {f34 : Addr} {od34 an34 : Option Addr} {sl34 : Array (Option Value)} {oc34 kV34 dc34 pm34 cd34 ct34 : Value}
    (a34 : PySem.W.nsIn K mainGlobals "is_empty" = some (some (.ref f34))) (l34 : K.lookup f34 = some ⟨oc34, od34, .func (PySem.W.fnOf "is_empty" "is_empty" (defArgs s_34) (defBody s_34) (defScope s_34) .none kV34 dc34 pm34 an34 cd34 ct34), sl34⟩) (c34 : PySem.W.codeIn K cd34 "is_empty" = true) (k34 : PySem.W.keepIn K (.ref f34) = true)
    {f35 : Addr} {od35 an35 : Option Addr} {sl35 : Array (Option Value)} {oc35 kV35 dc35 pm35 cd35 ct35 : Value}
    (a35 : PySem.W.nsIn K mainGlobals "is_within" = some (some (.ref f35))) (l35 : K.lookup f35 = some ⟨oc35, od35, .func (PySem.W.fnOf "is_within" "is_within" (defArgs s_35) (defBody s_35) (defScope s_35) .none kV35 dc35 pm35 an35 cd35 ct35), sl35⟩) (c35 : PySem.W.codeIn K cd35 "is_within" = true) (k35 : PySem.W.keepIn K (.ref f35) = true)
    {f36 : Addr} {od36 an36 : Option Addr} {sl36 : Array (Option Value)} {oc36 kV36 dc36 pm36 cd36 ct36 : Value}
    (a36 : PySem.W.nsIn K mainGlobals "least" = some (some (.ref f36))) (l36 : K.lookup f36 = some ⟨oc36, od36, .func (PySem.W.fnOf "least" "least" (defArgs s_36) (defBody s_36) (defScope s_36) .none kV36 dc36 pm36 an36 cd36 ct36), sl36⟩) (c36 : PySem.W.codeIn K cd36 "least" = true) (k36 : PySem.W.keepIn K (.ref f36) = true)
    {f37 : Addr} {od37 an37 : Option Addr} {sl37 : Array (Option Value)} {oc37 kV37 dc37 pm37 cd37 ct37 : Value}
    (a37 : PySem.W.nsIn K mainGlobals "single" = some (some (.ref f37))) (l37 : K.lookup f37 = some ⟨oc37, od37, .func (PySem.W.fnOf "single" "single" (defArgs s_37) (defBody s_37) (defScope s_37) .none kV37 dc37 pm37 an37 cd37 ct37), sl37⟩) (c37 : PySem.W.codeIn K cd37 "single" = true) (k37 : PySem.W.keepIn K (.ref f37) = true)
    {f38 : Addr} {od38 an38 : Option Addr} {sl38 : Array (Option Value)} {oc38 kV38 dc38 pm38 cd38 ct38 : Value}
    (a38 : PySem.W.nsIn K mainGlobals "moved" = some (some (.ref f38))) (l38 : K.lookup f38 = some ⟨oc38, od38, .func (PySem.W.fnOf "moved" "moved" (defArgs s_38) (defBody s_38) (defScope s_38) .none kV38 dc38 pm38 an38 cd38 ct38), sl38⟩) (c38 : PySem.W.codeIn K cd38 "moved" = true) (k38 : PySem.W.keepIn K (.ref f38) = true)
    {f39 : Addr} {od39 an39 : Option Addr} {sl39 : Array (Option Value)} {oc39 kV39 dc39 pm39 cd39 ct39 : Value}
    (a39 : PySem.W.nsIn K mainGlobals "range_set" = some (some (.ref f39))) (l39 : K.lookup f39 = some ⟨oc39, od39, .func (PySem.W.fnOf "range_set" "range_set" (defArgs s_39) (defBody s_39) (defScope s_39) .none kV39 dc39 pm39 an39 cd39 ct39), sl39⟩) (c39 : PySem.W.codeIn K cd39 "range_set" = true) (k39 : PySem.W.keepIn K (.ref f39) = true)
    {f1000 : Addr} {od1000 an1000 : Option Addr} {sl1000 : Array (Option Value)} {oc1000 kV1000 dc1000 pm1000 cd1000 ct1000 : Value}
    (a1000 : PySem.W.nsIn K mainGlobals "_law_cell" = some (some (.ref f1000))) (l1000 : K.lookup f1000 = some ⟨oc1000, od1000, .func (PySem.W.fnOf "_law_cell" "_law_cell" (defArgs s_1000) (defBody s_1000) (defScope s_1000) .none kV1000 dc1000 pm1000 an1000 cd1000 ct1000), sl1000⟩) (c1000 : PySem.W.codeIn K cd1000 "_law_cell" = true) (k1000 : PySem.W.keepIn K (.ref f1000) = true)
    {f1001 : Addr} {od1001 an1001 : Option Addr} {sl1001 : Array (Option Value)} {oc1001 kV1001 dc1001 pm1001 cd1001 ct1001 : Value}
    (a1001 : PySem.W.nsIn K mainGlobals "_law_digits" = some (some (.ref f1001))) (l1001 : K.lookup f1001 = some ⟨oc1001, od1001, .func (PySem.W.fnOf "_law_digits" "_law_digits" (defArgs s_1001) (defBody s_1001) (defScope s_1001) .none kV1001 dc1001 pm1001 an1001 cd1001 ct1001), sl1001⟩) (c1001 : PySem.W.codeIn K cd1001 "_law_digits" = true) (k1001 : PySem.W.keepIn K (.ref f1001) = true)
    {f1002 : Addr} {od1002 an1002 : Option Addr} {sl1002 : Array (Option Value)} {oc1002 kV1002 dc1002 pm1002 cd1002 ct1002 : Value}
    (a1002 : PySem.W.nsIn K mainGlobals "_law_draw" = some (some (.ref f1002))) (l1002 : K.lookup f1002 = some ⟨oc1002, od1002, .func (PySem.W.fnOf "_law_draw" "_law_draw" (defArgs s_1002) (defBody s_1002) (defScope s_1002) .none kV1002 dc1002 pm1002 an1002 cd1002 ct1002), sl1002⟩) (c1002 : PySem.W.codeIn K cd1002 "_law_draw" = true) (k1002 : PySem.W.keepIn K (.ref f1002) = true)
    {f1003 : Addr} {od1003 an1003 : Option Addr} {sl1003 : Array (Option Value)} {oc1003 kV1003 dc1003 pm1003 cd1003 ct1003 : Value}
    (a1003 : PySem.W.nsIn K mainGlobals "_law_row" = some (some (.ref f1003))) (l1003 : K.lookup f1003 = some ⟨oc1003, od1003, .func (PySem.W.fnOf "_law_row" "_law_row" (defArgs s_1003) (defBody s_1003) (defScope s_1003) .none kV1003 dc1003 pm1003 an1003 cd1003 ct1003), sl1003⟩) (c1003 : PySem.W.codeIn K cd1003 "_law_row" = true) (k1003 : PySem.W.keepIn K (.ref f1003) = true)
    {f1005 : Addr} {od1005 an1005 : Option Addr} {sl1005 : Array (Option Value)} {oc1005 kV1005 dc1005 pm1005 cd1005 ct1005 : Value}
    (a1005 : PySem.W.nsIn K mainGlobals "_law_far" = some (some (.ref f1005))) (l1005 : K.lookup f1005 = some ⟨oc1005, od1005, .func (PySem.W.fnOf "_law_far" "_law_far" (defArgs s_1005) (defBody s_1005) (defScope s_1005) .none kV1005 dc1005 pm1005 an1005 cd1005 ct1005), sl1005⟩) (c1005 : PySem.W.codeIn K cd1005 "_law_far" = true) (k1005 : PySem.W.keepIn K (.ref f1005) = true)
    {f1006 : Addr} {od1006 an1006 : Option Addr} {sl1006 : Array (Option Value)} {oc1006 kV1006 dc1006 pm1006 cd1006 ct1006 : Value}
    (a1006 : PySem.W.nsIn K mainGlobals "law" = some (some (.ref f1006))) (l1006 : K.lookup f1006 = some ⟨oc1006, od1006, .func (PySem.W.fnOf "law" "law" (defArgs s_1006) (defBody s_1006) (defScope s_1006) .none kV1006 dc1006 pm1006 an1006 cd1006 ct1006), sl1006⟩) (c1006 : PySem.W.codeIn K cd1006 "law" = true) (k1006 : PySem.W.keepIn K (.ref f1006) = true)
    (z_int : PySem.W.nsIn K mainGlobals "int" = some none)
    (z_len : PySem.W.nsIn K mainGlobals "len" = some none)
    (z_max : PySem.W.nsIn K mainGlobals "max" = some none)
    (z_range : PySem.W.nsIn K mainGlobals "range" = some none)
    (z_tuple : PySem.W.nsIn K mainGlobals "tuple" = some none)
    {an0_ALL : Addr} {nn0_ALL : Nat} {sn0_ALL : Array (Option Value)}
    {an1_ALL : Addr} {nn1_ALL : Nat} {sn1_ALL : Array (Option Value)}
    {an2_ALL : Addr} {nn2_ALL : Nat} {sn2_ALL : Array (Option Value)}
    (q_ALL : PySem.W.nsIn K mainGlobals "ALL" = some (some (.ref an0_ALL)))
    (rn0_ALL : K.lookup an0_ALL = some ⟨.type "tuple", none, .seq #[.ref an1_ALL, .ref an2_ALL] nn0_ALL, sn0_ALL⟩)
    (rn1_ALL : K.lookup an1_ALL = some ⟨.type "tuple", none, .seq #[] nn1_ALL, sn1_ALL⟩)
    (rn2_ALL : K.lookup an2_ALL = some ⟨.type "tuple", none, .seq #[.bool true] nn2_ALL, sn2_ALL⟩)
    {an0_NONE : Addr} {nn0_NONE : Nat} {sn0_NONE : Array (Option Value)}
    {an1_NONE : Addr} {nn1_NONE : Nat} {sn1_NONE : Array (Option Value)}
    {an2_NONE : Addr} {nn2_NONE : Nat} {sn2_NONE : Array (Option Value)}
    (q_NONE : PySem.W.nsIn K mainGlobals "NONE" = some (some (.ref an0_NONE)))
    (rn0_NONE : K.lookup an0_NONE = some ⟨.type "tuple", none, .seq #[.ref an1_NONE, .ref an2_NONE] nn0_NONE, sn0_NONE⟩)
    (rn1_NONE : K.lookup an1_NONE = some ⟨.type "tuple", none, .seq #[] nn1_NONE, sn1_NONE⟩)
    (rn2_NONE : K.lookup an2_NONE = some ⟨.type "tuple", none, .seq #[.bool false] nn2_NONE, sn2_NONE⟩)
    (hd30 : PySem.W.codeHdIn K cc30 62 = true) (nk30 : K.lookup 62 = none)
    (hd31 : PySem.W.codeHdIn K cc31 69 = true) (nk31 : K.lookup 69 = none)
    (hd32 : PySem.W.codeHdIn K cc32 76 = true) (nk32 : K.lookup 76 = none)
    (hTT : ∀ P ∈ [62, 69, 76], h.get? P = some { cls := .none, data := .fields #[] })
    (hlaw : ∀ ns : List Int, ns.length ≤ 63 → ∃ S, run 12 1006 [.scr ns] [] = .ok (.bl true) S) :
    ∃ (fd : FuncData) (cls : Nat → Addr) (cs : List (Addr × Addr)), (∀ p ∈ cs, h.get? p.2 = some { cls := .none, data := .fields #[] }) ∧ (∀ p ∈ cs, K.lookup p.2 = none) ∧ (∀ p ∈ cs, PySem.W.CodeHd h p.1 p.2) ∧ (∀ i, cls (i + 1000) ≠ 0 → cls (i + 1000) ∈ cs.map (·.2)) ∧ (∀ (s : Shared) (v : Value), BindsTo s fd ⟨[v], []⟩ [("_law_script", v)]) ∧ ∀ base : Heap, K.In base → base.Ns mainGlobals mg → (∃ P0, base.BuiltinsAt mg P0) → FnG l.prog w K mg base 96 fa fd ["_law_script"] (DL.spLawT K cls) := by
  have e := hfa.symm.trans (PySem.W.mg_of X G a1006)
  cases e
  let A : Nat → Addr := fun i => match i with
    | 24 => f24
    | 25 => f25
    | 26 => f26
    | 27 => f27
    | 28 => f28
    | 29 => f29
    | 30 => f30
    | 31 => f31
    | 32 => f32
    | 33 => f33
    | 34 => f34
    | 35 => f35
    | 36 => f36
    | 37 => f37
    | 38 => f38
    | 39 => f39
    | 1000 => f1000
    | 1001 => f1001
    | 1002 => f1002
    | 1003 => f1003
    | 1005 => f1005
    | 1006 => fa
    | _ => 0
  let CL : Nat → Addr := fun i => if i = 1003 then 76 else if i = 1002 then 69 else if i = 1001 then 62 else 0
  have hz : ∀ i, i ≠ 1 → i ≠ 2 → i ≠ 3 → CL (i + 1000) = 0 := fun i q1 q2 q3 => by
    show (fun i => if i = 1003 then 76 else if i = 1002 then 69 else if i = 1001 then 62 else 0) (i + 1000) = 0
    simp only []
    repeat rw [if_neg (by omega)]
  have hcas : ∀ i, CL (i + 1000) ≠ 0 → i = 1 ∨ i = 2 ∨ i = 3 := fun i z => by
    by_cases h : i = 1 ∨ i = 2 ∨ i = 3
    · exact h
    · exact absurd (hz i (fun e => h (by omega)) (fun e => h (by omega)) (fun e => h (by omega))) z
  let FD : Nat → FuncData := fun i => match i with
    | 24 => (PySem.W.fnOf "common_divisor" "common_divisor" (defArgs s_24) (defBody s_24) (defScope s_24) .none kV24 dc24 pm24 an24 cd24 ct24)
    | 25 => (PySem.W.fnOf "shortest_cycle" "shortest_cycle" (defArgs s_25) (defBody s_25) (defScope s_25) .none kV25 dc25 pm25 an25 cd25 ct25)
    | 26 => (PySem.W.fnOf "settled" "settled" (defArgs s_26) (defBody s_26) (defScope s_26) .none kV26 dc26 pm26 an26 cd26 ct26)
    | 27 => (PySem.W.fnOf "contains" "contains" (defArgs s_27) (defBody s_27) (defScope s_27) .none kV27 dc27 pm27 an27 cd27 ct27)
    | 28 => (PySem.W.fnOf "shared" "shared" (defArgs s_28) (defBody s_28) (defScope s_28) .none kV28 dc28 pm28 an28 cd28 ct28)
    | 29 => (PySem.W.fnOf "put_together" "put_together" (defArgs s_29) (defBody s_29) (defScope s_29) .none kV29 dc29 pm29 an29 cd29 ct29)
    | 30 => (PySem.W.fnOf "union" "union" (defArgs s_30) (defBody s_30) (defScope s_30) .none kV30 dc30 pm30 an30 (.ref cc30) ct30)
    | 31 => (PySem.W.fnOf "common" "common" (defArgs s_31) (defBody s_31) (defScope s_31) .none kV31 dc31 pm31 an31 (.ref cc31) ct31)
    | 32 => (PySem.W.fnOf "difference" "difference" (defArgs s_32) (defBody s_32) (defScope s_32) .none kV32 dc32 pm32 an32 (.ref cc32) ct32)
    | 33 => (PySem.W.fnOf "complement" "complement" (defArgs s_33) (defBody s_33) (defScope s_33) .none kV33 dc33 pm33 an33 cd33 ct33)
    | 34 => (PySem.W.fnOf "is_empty" "is_empty" (defArgs s_34) (defBody s_34) (defScope s_34) .none kV34 dc34 pm34 an34 cd34 ct34)
    | 35 => (PySem.W.fnOf "is_within" "is_within" (defArgs s_35) (defBody s_35) (defScope s_35) .none kV35 dc35 pm35 an35 cd35 ct35)
    | 36 => (PySem.W.fnOf "least" "least" (defArgs s_36) (defBody s_36) (defScope s_36) .none kV36 dc36 pm36 an36 cd36 ct36)
    | 37 => (PySem.W.fnOf "single" "single" (defArgs s_37) (defBody s_37) (defScope s_37) .none kV37 dc37 pm37 an37 cd37 ct37)
    | 38 => (PySem.W.fnOf "moved" "moved" (defArgs s_38) (defBody s_38) (defScope s_38) .none kV38 dc38 pm38 an38 cd38 ct38)
    | 39 => (PySem.W.fnOf "range_set" "range_set" (defArgs s_39) (defBody s_39) (defScope s_39) .none kV39 dc39 pm39 an39 cd39 ct39)
    | 1000 => (PySem.W.fnOf "_law_cell" "_law_cell" (defArgs s_1000) (defBody s_1000) (defScope s_1000) .none kV1000 dc1000 pm1000 an1000 cd1000 ct1000)
    | 1001 => (PySem.W.fnOf "_law_digits" "_law_digits" (defArgs s_1001) (defBody s_1001) (defScope s_1001) .none kV1001 dc1001 pm1001 an1001 cd1001 ct1001)
    | 1002 => (PySem.W.fnOf "_law_draw" "_law_draw" (defArgs s_1002) (defBody s_1002) (defScope s_1002) .none kV1002 dc1002 pm1002 an1002 cd1002 ct1002)
    | 1003 => (PySem.W.fnOf "_law_row" "_law_row" (defArgs s_1003) (defBody s_1003) (defScope s_1003) .none kV1003 dc1003 pm1003 an1003 cd1003 ct1003)
    | 1005 => (PySem.W.fnOf "_law_far" "_law_far" (defArgs s_1005) (defBody s_1005) (defScope s_1005) .none kV1005 dc1005 pm1005 an1005 cd1005 ct1005)
    | 1006 => (PySem.W.fnOf "law" "law" (defArgs s_1006) (defBody s_1006) (defScope s_1006) .none kV1006 dc1006 pm1006 an1006 cd1006 ct1006)
    | _ => (PySem.W.fnOf "law" "law" (defArgs s_1006) (defBody s_1006) (defScope s_1006) .none kV1006 dc1006 pm1006 an1006 cd1006 ct1006)
  have T : Top l.prog K mg CL A FD := {
    b_int := PySem.W.mg_none_of X G z_int
    b_len := PySem.W.mg_none_of X G z_len
    b_max := PySem.W.mg_none_of X G z_max
    b_range := PySem.W.mg_none_of X G z_range
    b_tuple := PySem.W.mg_none_of X G z_tuple
    c_ALL := ⟨_, PySem.W.mg_of X G q_ALL, (by rw [TupK]; exact ⟨_, [.ref an1_ALL, .ref an2_ALL], _, _, rfl, rn0_ALL, (by decide : 2 ≤ sizeLine), (by rw [TupKs]; exact ⟨_, _, rfl, (by rw [TupK]; exact ⟨_, [], _, _, rfl, rn1_ALL, (by decide : 0 ≤ sizeLine), (by rw [TupKs])⟩), (by rw [TupKs]; exact ⟨_, _, rfl, (by rw [TupK]; exact ⟨_, [.bool true], _, _, rfl, rn2_ALL, (by decide : 1 ≤ sizeLine), (by rw [TupKs]; exact ⟨_, _, rfl, (by rw [TupK]), (by rw [TupKs])⟩)⟩), (by rw [TupKs])⟩)⟩)⟩)⟩
    c_NONE := ⟨_, PySem.W.mg_of X G q_NONE, (by rw [TupK]; exact ⟨_, [.ref an1_NONE, .ref an2_NONE], _, _, rfl, rn0_NONE, (by decide : 2 ≤ sizeLine), (by rw [TupKs]; exact ⟨_, _, rfl, (by rw [TupK]; exact ⟨_, [], _, _, rfl, rn1_NONE, (by decide : 0 ≤ sizeLine), (by rw [TupKs])⟩), (by rw [TupKs]; exact ⟨_, _, rfl, (by rw [TupK]; exact ⟨_, [.bool false], _, _, rfl, rn2_NONE, (by decide : 1 ≤ sizeLine), (by rw [TupKs]; exact ⟨_, _, rfl, (by rw [TupK]), (by rw [TupKs])⟩)⟩), (by rw [TupKs])⟩)⟩)⟩)⟩
    f_24 := fun_mk (st := s_24) l24 c24 k24
    g_24 := PySem.W.mg_of X G a24
    n_24 := (fun_mk (st := s_24) l24 c24 k24).binds fun _ _ _ _ _ _ us hl => match us, hl with | [_, _], _ => rfl
    f_25 := fun_mk (st := s_25) l25 c25 k25
    g_25 := PySem.W.mg_of X G a25
    n_25 := (fun_mk (st := s_25) l25 c25 k25).binds fun _ _ _ _ _ _ us hl => match us, hl with | [_], _ => rfl
    f_26 := fun_mk (st := s_26) l26 c26 k26
    g_26 := PySem.W.mg_of X G a26
    n_26 := (fun_mk (st := s_26) l26 c26 k26).binds fun _ _ _ _ _ _ us hl => match us, hl with | [_, _], _ => rfl
    f_27 := fun_mk (st := s_27) l27 c27 k27
    g_27 := PySem.W.mg_of X G a27
    n_27 := (fun_mk (st := s_27) l27 c27 k27).binds fun _ _ _ _ _ _ us hl => match us, hl with | [_, _], _ => rfl
    f_28 := fun_mk (st := s_28) l28 c28 k28
    g_28 := PySem.W.mg_of X G a28
    n_28 := (fun_mk (st := s_28) l28 c28 k28).binds fun _ _ _ _ _ _ us hl => match us, hl with | [_, _], _ => rfl
    f_29 := fun_mk (st := s_29) l29 c29 k29
    g_29 := PySem.W.mg_of X G a29
    n_29 := (fun_mk (st := s_29) l29 c29 k29).binds fun _ _ _ _ _ _ us hl => match us, hl with | [_, _, _], _ => rfl
    f_30 := fun_mk (st := s_30) l30 c30 k30
    g_30 := PySem.W.mg_of X G a30
    n_30 := (fun_mk (st := s_30) l30 c30 k30).binds fun _ _ _ _ _ _ us hl => match us, hl with | [_, _], _ => rfl
    f_31 := fun_mk (st := s_31) l31 c31 k31
    g_31 := PySem.W.mg_of X G a31
    n_31 := (fun_mk (st := s_31) l31 c31 k31).binds fun _ _ _ _ _ _ us hl => match us, hl with | [_, _], _ => rfl
    f_32 := fun_mk (st := s_32) l32 c32 k32
    g_32 := PySem.W.mg_of X G a32
    n_32 := (fun_mk (st := s_32) l32 c32 k32).binds fun _ _ _ _ _ _ us hl => match us, hl with | [_, _], _ => rfl
    f_33 := fun_mk (st := s_33) l33 c33 k33
    g_33 := PySem.W.mg_of X G a33
    n_33 := (fun_mk (st := s_33) l33 c33 k33).binds fun _ _ _ _ _ _ us hl => match us, hl with | [_], _ => rfl
    f_34 := fun_mk (st := s_34) l34 c34 k34
    g_34 := PySem.W.mg_of X G a34
    n_34 := (fun_mk (st := s_34) l34 c34 k34).binds fun _ _ _ _ _ _ us hl => match us, hl with | [_], _ => rfl
    f_35 := fun_mk (st := s_35) l35 c35 k35
    g_35 := PySem.W.mg_of X G a35
    n_35 := (fun_mk (st := s_35) l35 c35 k35).binds fun _ _ _ _ _ _ us hl => match us, hl with | [_, _], _ => rfl
    f_36 := fun_mk (st := s_36) l36 c36 k36
    g_36 := PySem.W.mg_of X G a36
    n_36 := (fun_mk (st := s_36) l36 c36 k36).binds fun _ _ _ _ _ _ us hl => match us, hl with | [_], _ => rfl
    f_37 := fun_mk (st := s_37) l37 c37 k37
    g_37 := PySem.W.mg_of X G a37
    n_37 := (fun_mk (st := s_37) l37 c37 k37).binds fun _ _ _ _ _ _ us hl => match us, hl with | [_], _ => rfl
    f_38 := fun_mk (st := s_38) l38 c38 k38
    g_38 := PySem.W.mg_of X G a38
    n_38 := (fun_mk (st := s_38) l38 c38 k38).binds fun _ _ _ _ _ _ us hl => match us, hl with | [_, _], _ => rfl
    f_39 := fun_mk (st := s_39) l39 c39 k39
    g_39 := PySem.W.mg_of X G a39
    n_39 := (fun_mk (st := s_39) l39 c39 k39).binds fun _ _ _ _ _ _ us hl => match us, hl with | [_, _], _ => rfl
    f_1000 := fun_mk (st := s_1000) l1000 c1000 k1000
    g_1000 := PySem.W.mg_of X G a1000
    n_1000 := (fun_mk (st := s_1000) l1000 c1000 k1000).binds fun _ _ _ _ _ _ us hl => match us, hl with | [_, _], _ => rfl
    f_1001 := fun_mk (st := s_1001) l1001 c1001 k1001
    g_1001 := PySem.W.mg_of X G a1001
    n_1001 := (fun_mk (st := s_1001) l1001 c1001 k1001).binds fun _ _ _ _ _ _ us hl => match us, hl with | [_, _, _], _ => rfl
    f_1002 := fun_mk (st := s_1002) l1002 c1002 k1002
    g_1002 := PySem.W.mg_of X G a1002
    n_1002 := (fun_mk (st := s_1002) l1002 c1002 k1002).binds fun _ _ _ _ _ _ us hl => match us, hl with | [_, _], _ => rfl
    f_1003 := fun_mk (st := s_1003) l1003 c1003 k1003
    g_1003 := PySem.W.mg_of X G a1003
    n_1003 := (fun_mk (st := s_1003) l1003 c1003 k1003).binds fun _ _ _ _ _ _ us hl => match us, hl with | [_, _], _ => rfl
    f_1005 := fun_mk (st := s_1005) l1005 c1005 k1005
    g_1005 := PySem.W.mg_of X G a1005
    n_1005 := (fun_mk (st := s_1005) l1005 c1005 k1005).binds fun _ _ _ _ _ _ us hl => match us, hl with | [_], _ => rfl
    f_1006 := fun_mk (st := s_1006) l1006 c1006 k1006
    g_1006 := PySem.W.mg_of X G a1006
    n_1006 := (fun_mk (st := s_1006) l1006 c1006 k1006).binds fun _ _ _ _ _ _ us hl => match us, hl with | [_], _ => rfl }
  have k1 : ∀ p ∈ [(cc30, 62), (cc31, 69), (cc32, 76)], h.get? p.2 = some { cls := .none, data := .fields #[] } := by
    intro p hp
    rcases List.mem_cons.mp hp with rfl | hp
    · exact hTT 62 (by simp)
    · skip
      rcases List.mem_cons.mp hp with rfl | hp
      · exact hTT 69 (by simp)
      · skip
        rcases List.mem_cons.mp hp with rfl | hp
        · exact hTT 76 (by simp)
        · skip
          cases hp
  have k2 : ∀ p ∈ [(cc30, 62), (cc31, 69), (cc32, 76)], K.lookup p.2 = none := by
    intro p hp
    rcases List.mem_cons.mp hp with rfl | hp
    · exact nk30
    · skip
      rcases List.mem_cons.mp hp with rfl | hp
      · exact nk31
      · skip
        rcases List.mem_cons.mp hp with rfl | hp
        · exact nk32
        · skip
          cases hp
  have k3 : ∀ p ∈ [(cc30, 62), (cc31, 69), (cc32, 76)], PySem.W.CodeHd h p.1 p.2 := by
    intro p hp
    rcases List.mem_cons.mp hp with rfl | hp
    · exact PySem.W.codeHd_of_K X hd30
    · skip
      rcases List.mem_cons.mp hp with rfl | hp
      · exact PySem.W.codeHd_of_K X hd31
      · skip
        rcases List.mem_cons.mp hp with rfl | hp
        · exact PySem.W.codeHd_of_K X hd32
        · skip
          cases hp
  refine ⟨(PySem.W.fnOf "law" "law" (defArgs s_1006) (defBody s_1006) (defScope s_1006) .none kV1006 dc1006 pm1006 an1006 cd1006 ct1006), CL, [(cc30, 62), (cc31, 69), (cc32, 76)], k1, k2, k3, fun i z => ?_, fun s v => .of_eq rfl, fun base kb _ bm => ?_⟩
  · rcases hcas i z with rfl | rfl | rfl
    · show 62 ∈ [62, 69, 76]
      simp
    · show 69 ∈ [62, 69, 76]
      simp
    · show 76 ∈ [62, 69, 76]
      simp
  have B : Bs mg base CL FD := {
    bm := bm
    ex_30 := ⟨cc30, rfl⟩
    cd_30 := fun e => by
      have e2 : Value.ref cc30 = .ref _ := e
      cases e2
      exact PySem.W.codeHd_of_K kb hd30
    nz_30 := (by decide : (62 : Nat) ≠ 0)
    un_30 := fun j e z => by
      rcases hcas j z with rfl | rfl | rfl
      · rfl
      · exact absurd (show (69 : Nat) = 62 from e) (by decide)
      · exact absurd (show (76 : Nat) = 62 from e) (by decide)
    ex_31 := ⟨cc31, rfl⟩
    cd_31 := fun e => by
      have e2 : Value.ref cc31 = .ref _ := e
      cases e2
      exact PySem.W.codeHd_of_K kb hd31
    nz_31 := (by decide : (69 : Nat) ≠ 0)
    un_31 := fun j e z => by
      rcases hcas j z with rfl | rfl | rfl
      · exact absurd (show (62 : Nat) = 69 from e) (by decide)
      · rfl
      · exact absurd (show (76 : Nat) = 69 from e) (by decide)
    ex_32 := ⟨cc32, rfl⟩
    cd_32 := fun e => by
      have e2 : Value.ref cc32 = .ref _ := e
      cases e2
      exact PySem.W.codeHd_of_K kb hd32
    nz_32 := (by decide : (76 : Nat) ≠ 0)
    un_32 := fun j e z => by
      rcases hcas j z with rfl | rfl | rfl
      · exact absurd (show (62 : Nat) = 76 from e) (by decide)
      · exact absurd (show (69 : Nat) = 76 from e) (by decide)
      · rfl }
  exact lawT_imp (cls := CL) ((all (P := l.prog) (w := w) (base := base) (cls := CL) T B 12).k_1006) hlaw
end
section
open PySem L2 DL
/-! ### rows that repeat: plain facts -/
def atq (h c : List Bool) (k : Nat) : Bool := if k < h.length then h.getD k false else c.getD ((k - h.length) % c.length) false
def EvP (f : Nat → Bool) (d : Nat) : Prop := 0 < d ∧ ∃ K, ∀ k, K ≤ k → f (k + d) = f k
theorem EvP.sub {f : Nat → Bool} {a b : Nat} (ha : EvP f a) (hb : EvP f b) (h : a < b) : EvP f (b - a) := by
  obtain ⟨_, K1, h1⟩ := ha
  obtain ⟨_, K2, h2⟩ := hb
  refine ⟨by omega, max K1 K2, fun k hk => ?_⟩
  have e1 := h1 (k + (b - a)) (by omega)
  have e2 := h2 k (by omega)
  rw [← e1, ← e2]
  congr 1; omega
theorem EvP.mul {f : Nat → Bool} {d : Nat} (h : ∃ K, ∀ k, K ≤ k → f (k + d) = f k) : ∃ K, ∀ m k, K ≤ k → f (k + d * m) = f k := by
  obtain ⟨K, h⟩ := h
  refine ⟨K, fun m => ?_⟩
  induction m with
  | zero => intro k _; rfl
  | succ m ih =>
    intro k hk
    rw [Nat.mul_succ, ← Nat.add_assoc, h _ (by omega), ih k hk]
theorem EvP.least {f : Nat → Bool} {b : Nat} (h : EvP f b) : ∃ p, EvP f p ∧ ∀ d, EvP f d → p ≤ d := by
  induction b using Nat.strongRecOn with
  | ind b ih =>
    by_cases hx : ∃ d, EvP f d ∧ d < b
    · obtain ⟨d, hd, hl⟩ := hx
      exact ih d hl hd
    · exact ⟨b, h, fun d hd => Nat.le_of_not_lt fun hl => hx ⟨d, hd, hl⟩⟩
theorem EvP.dvd {f : Nat → Bool} {p : Nat} (hp : EvP f p) (hl : ∀ d, EvP f d → p ≤ d) : ∀ {b : Nat}, EvP f b → p ∣ b := by
  intro b
  induction b using Nat.strongRecOn with
  | ind b ih =>
    intro hb
    have := hl b hb
    by_cases e : p = b
    · subst e; exact Nat.dvd_refl _
    · have hs := hp.sub hb (by omega)
      have := ih (b - p) (by have := hp.1; omega) hs
      have e2 : b = (b - p) + p := by omega
      rw [e2]
      exact Nat.dvd_add this (Nat.dvd_refl _)
theorem getD_app1 {α : Type} (a b : List α) (d : α) (k : Nat) (h : k < a.length) : (a ++ b).getD k d = a.getD k d := by
  rw [List.getD_eq_getElem?_getD, List.getD_eq_getElem?_getD, List.getElem?_append_left h]
theorem getD_app2 {α : Type} (a b : List α) (d : α) (k : Nat) (h : a.length ≤ k) : (a ++ b).getD k d = b.getD (k - a.length) d := by
  rw [List.getD_eq_getElem?_getD, List.getD_eq_getElem?_getD, List.getElem?_append_right h]
/-! a row said again and again -/
def rp (m : Nat) (s : List Bool) : List Bool := (List.replicate m s).flatten
theorem rp_succ (m : Nat) (s : List Bool) : rp (m + 1) s = s ++ rp m s := by unfold rp; rw [List.replicate_succ, List.flatten_cons]
theorem rp_len (m : Nat) (s : List Bool) : (rp m s).length = m * s.length := by
  induction m with
  | zero => simp [rp]
  | succ m ih => rw [rp_succ, List.length_append, ih, Nat.succ_mul, Nat.add_comm]
theorem rp_get (m : Nat) (s : List Bool) (k : Nat) (h : k < m * s.length) : (rp m s).getD k false = s.getD (k % s.length) false := by
  induction m generalizing k with
  | zero => simp at h
  | succ m ih =>
    rw [rp_succ]
    by_cases hk : k < s.length
    · rw [getD_app1 _ _ _ _ hk, Nat.mod_eq_of_lt hk]
    · rw [getD_app2 _ _ _ _ (by omega), ih (k - s.length) (by rw [Nat.succ_mul] at h; omega)]
      congr 1
      conv => rhs; rw [show k = (k - s.length) + s.length by omega, Nat.add_mod_right]
theorem list_ext {a b : List Bool} (hl : a.length = b.length) (h : ∀ k, k < a.length → a.getD k false = b.getD k false) : a = b := by
  apply List.ext_getElem hl
  intro i h1 h2
  have := h i h1
  simpa [List.getD_eq_getElem?_getD, h1, h2] using this
/-! the shortest cycle -/
def cond (c : List Bool) (L : Nat) : Bool := c.length % L == 0 && decide (rp (c.length / L) (c.take L) = c)
theorem cond_iff {c : List Bool} {L : Nat} (h0 : 0 < L) (hL : L ≤ c.length) : cond c L = true ↔ L ∣ c.length ∧ ∀ k, k < c.length → c.getD k false = c.getD (k % L) false := by
  unfold cond
  rw [Bool.and_eq_true, beq_iff_eq, decide_eq_true_iff]
  have tl : (c.take L).length = L := by rw [List.length_take]; omega
  have tg : ∀ j, j < L → (c.take L).getD j false = c.getD j false := fun j hj => by simp [List.getD_eq_getElem?_getD, List.getElem?_take, hj]
  constructor
  · rintro ⟨h1, h2⟩
    have hd : L ∣ c.length := Nat.dvd_of_mod_eq_zero h1
    refine ⟨hd, fun k hk => ?_⟩
    have hm : c.length / L * L = c.length := Nat.div_mul_cancel hd
    have := rp_get (c.length / L) (c.take L) k (by rw [tl, hm]; exact hk)
    rw [h2, tl, tg _ (Nat.mod_lt _ h0)] at this
    exact this
  · rintro ⟨hd, h2⟩
    have hm : c.length / L * L = c.length := Nat.div_mul_cancel hd
    refine ⟨Nat.mod_eq_zero_of_dvd hd, ?_⟩
    apply list_ext
    · rw [rp_len, tl, hm]
    · intro k hk
      rw [rp_len, tl, hm] at hk
      rw [rp_get _ _ _ (by rw [tl, hm]; exact hk), tl, tg _ (Nat.mod_lt _ h0), h2 k hk]
theorem findRange {β : Type} (f : Nat → Option β) : ∀ (n : Nat), (match (List.range n).findSome? f with
    | some b => ∃ j, j < n ∧ f j = some b ∧ ∀ i, i < j → f i = none
    | none => ∀ i, i < n → f i = none)
  | 0 => by simp
  | n + 1 => by
    have ih := findRange f n
    rw [List.range_succ, List.findSome?_append]
    cases h : (List.range n).findSome? f with
    | some b =>
      rw [h] at ih
      obtain ⟨j, h1, h2, h3⟩ := ih
      exact ⟨j, by omega, h2, h3⟩
    | none =>
      rw [h] at ih
      simp only [Option.none_or, List.findSome?_cons, List.findSome?_nil]
      cases hf : f n with
      | some b => exact ⟨n, by omega, hf, ih⟩
      | none =>
        intro i hi
        by_cases e : i = n
        · subst e; exact hf
        · exact ih i (by omega)
def shortest (c : List Bool) : List Bool := match (List.range c.length).findSome? (fun j => if cond c (j + 1) then some (c.take (j + 1)) else none) with
  | some s => s
  | none => c
theorem shortest_spec {c : List Bool} (hc : c ≠ []) : ∃ L, 0 < L ∧ L ≤ c.length ∧ shortest c = c.take L ∧ cond c L = true ∧ ∀ i, 0 < i → i < L → cond c i = false := by
  have hn : 0 < c.length := List.length_pos_iff.mpr hc
  have hf := findRange (fun j => if cond c (j + 1) then some (c.take (j + 1)) else none) c.length
  have full : cond c c.length = true := by
    rw [cond_iff hn (Nat.le_refl _)]
    exact ⟨Nat.dvd_refl _, fun k hk => by rw [Nat.mod_eq_of_lt hk]⟩
  unfold shortest
  cases h : (List.range c.length).findSome? (fun j => if cond c (j + 1) then some (c.take (j + 1)) else none) with
  | some b =>
    rw [h] at hf
    obtain ⟨j, h1, h2, h3⟩ := hf
    by_cases hj : cond c (j + 1) = true
    · rw [if_pos hj] at h2
      cases h2
      refine ⟨j + 1, by omega, by omega, rfl, hj, fun i hi hl => ?_⟩
      have := h3 (i - 1) (by omega)
      rw [show i - 1 + 1 = i by omega] at this
      cases hz : cond c i with
      | false => rfl
      | true => rw [hz] at this; cases this
    · rw [if_neg hj] at h2; cases h2
  | none =>
    rw [h] at hf
    have := hf (c.length - 1) (by omega)
    rw [show c.length - 1 + 1 = c.length by omega, full] at this
    cases this
/-- it has the least of all lengths by which the row goes on -/
theorem shortest_least {h c : List Bool} (hc : c ≠ []) : 0 < (shortest c).length ∧ (∀ k, atq h (shortest c) k = atq h c k) ∧ EvP (atq h c) (shortest c).length ∧ ∀ d, EvP (atq h c) d → (shortest c).length ≤ d := by
  have hn : 0 < c.length := List.length_pos_iff.mpr hc
  obtain ⟨L, h0, hL, hs, h1, h2⟩ := shortest_spec hc
  have tl : (c.take L).length = L := by rw [List.length_take]; omega
  have tg : ∀ j, j < L → (c.take L).getD j false = c.getD j false := fun j hj => by simp [List.getD_eq_getElem?_getD, List.getElem?_take, hj]
  obtain ⟨hd, hg⟩ := (cond_iff h0 hL).mp h1
  have same : ∀ k, atq h (shortest c) k = atq h c k := fun k => by
    unfold atq
    split
    · rfl
    · rw [hs, tl, tg _ (Nat.mod_lt _ h0), hg ((k - h.length) % c.length) (Nat.mod_lt _ hn), Nat.mod_mod_of_dvd _ hd]
  have ev : ∀ (s : List Bool), 0 < s.length → EvP (atq h s) s.length := fun s hs => ⟨hs, h.length, fun k hk => by
    unfold atq
    rw [if_neg (by omega), if_neg (by omega), show k + s.length - h.length = (k - h.length) + s.length by omega, Nat.add_mod_right]⟩
  have fe : atq h (shortest c) = atq h c := funext same
  have hsl : (shortest c).length = L := by rw [hs, tl]
  refine ⟨by omega, same, by rw [← fe]; exact ev _ (by omega), fun d hd2 => ?_⟩
  rw [hsl]
  obtain ⟨p, hp, hl⟩ := hd2.least
  have hpn : p ∣ c.length := hp.dvd hl (ev c hn)
  have hple : p ≤ c.length := Nat.le_of_dvd hn hpn
  have hcond : cond c p = true := by
    rw [cond_iff hp.1 hple]
    refine ⟨hpn, fun k hk => ?_⟩
    obtain ⟨K, hm⟩ := EvP.mul hp.2
    have a1 : ∀ j, j < c.length → atq h c (h.length + j + c.length * (K + 1)) = c.getD j false := fun j hj => by
      unfold atq
      rw [if_neg (by omega), show h.length + j + c.length * (K + 1) - h.length = j + c.length * (K + 1) by omega, Nat.add_mul_mod_self_left, Nat.mod_eq_of_lt hj]
    have b1 := a1 k hk
    have b2 := a1 (k % p) (by have := Nat.mod_le k p; omega)
    rw [← b1, ← b2]
    have e : h.length + k + c.length * (K + 1) = (h.length + k % p + c.length * (K + 1)) + p * (k / p) := by
      have := Nat.mod_add_div k p; omega
    rw [e]
    refine hm _ _ ?_
    have : 1 * (K + 1) ≤ c.length * (K + 1) := Nat.mul_le_mul_right _ hn
    omega
  have : L ≤ p := Nat.le_of_not_lt fun hlt => by
    have := h2 p hp.1 hlt
    rw [hcond] at this; cases this
  exact Nat.le_trans this (hl d hd2)
/-! the head, made shorter -/
def rot (s : List Bool) : List Bool := s.drop (s.length - 1) ++ s.take (s.length - 1)
def strip : Nat → List Bool → List Bool → List Bool × List Bool
  | 0, h, s => (h, s)
  | n + 1, h, s => if h ≠ [] ∧ h.getLast? = s.getLast? then strip n h.dropLast (rot s) else (h, s)
theorem rot_len (s : List Bool) : (rot s).length = s.length := by unfold rot; simp
theorem getLast_getD {s : List Bool} (h : s ≠ []) : s.getLast? = some (s.getD (s.length - 1) false) := by
  rw [List.getLast?_eq_getElem?, List.getD_eq_getElem?_getD]
  have : 0 < s.length := List.length_pos_iff.mpr h
  rw [List.getElem?_eq_getElem (by omega)]; rfl
theorem rot_get {s : List Bool} (h : s ≠ []) (k : Nat) (hk : k < s.length) : (rot s).getD k false = s.getD ((k + s.length - 1) % s.length) false := by
  have hn : 0 < s.length := List.length_pos_iff.mpr h
  unfold rot
  cases k with
  | zero =>
    rw [getD_app1 _ _ _ _ (by simp; omega), Nat.mod_eq_of_lt (by omega)]
    simp [List.getD_eq_getElem?_getD, List.getElem?_drop]
  | succ k =>
    have dl : (s.drop (s.length - 1)).length = 1 := by simp; omega
    rw [getD_app2 _ _ _ _ (by rw [dl]; omega), dl, Nat.add_sub_cancel, show k + 1 + s.length - 1 = k + s.length by omega, Nat.add_mod_right, Nat.mod_eq_of_lt (by omega)]
    simp [List.getD_eq_getElem?_getD, List.getElem?_take, show k < s.length - 1 by omega, show k < s.length by omega]
theorem strip_step {h s : List Bool} (hh : h ≠ []) (hs : s ≠ []) (e : h.getLast? = s.getLast?) (k : Nat) : atq h.dropLast (rot s) k = atq h s k := by
  have h0 : 0 < h.length := List.length_pos_iff.mpr hh
  have s0 : 0 < s.length := List.length_pos_iff.mpr hs
  have dl : h.dropLast.length = h.length - 1 := List.length_dropLast
  unfold atq
  rw [dl, rot_len]
  by_cases h1 : k < h.length - 1
  · rw [if_pos h1, if_pos (by omega)]
    simp [List.getD_eq_getElem?_getD, List.dropLast_eq_take, List.getElem?_take, h1, show k < h.length by omega]
  · rw [if_neg h1, rot_get hs _ (Nat.mod_lt _ s0)]
    by_cases h2 : k < h.length
    · have ek : k = h.length - 1 := by omega
      rw [if_pos h2, ek, Nat.sub_self, Nat.zero_mod, Nat.zero_add, Nat.mod_eq_of_lt (by omega)]
      rw [getLast_getD hh, getLast_getD hs] at e
      exact (Option.some.inj e).symm
    · rw [if_neg h2]
      congr 1
      have e1 : k - (h.length - 1) = (k - h.length) + 1 := by omega
      rw [e1]
      generalize k - h.length = j
      rw [show (j + 1) % s.length + s.length - 1 = (j + 1) % s.length + (s.length - 1) by omega, Nat.mod_add_mod, show j + 1 + (s.length - 1) = j + s.length by omega, Nat.add_mod_right]
theorem strip_spec : ∀ (n : Nat) (h s : List Bool), s ≠ [] → h.length ≤ n → (∀ k, atq (strip n h s).1 (strip n h s).2 k = atq h s k) ∧ (strip n h s).2.length = s.length ∧ (strip n h s).1.length ≤ h.length ∧ ((strip n h s).1 = [] ∨ (strip n h s).1.getLast? ≠ (strip n h s).2.getLast?)
  | 0, h, s, _, hn => by
    have : h = [] := List.eq_nil_of_length_eq_zero (by omega)
    subst this
    exact ⟨fun _ => rfl, rfl, Nat.le_refl _, .inl rfl⟩
  | n + 1, h, s, hs, hn => by
    unfold strip
    by_cases hc : h ≠ [] ∧ h.getLast? = s.getLast?
    · rw [if_pos hc]
      have hr : rot s ≠ [] := fun e => hs (List.eq_nil_of_length_eq_zero (by rw [← rot_len, e]; rfl))
      obtain ⟨a, b, c, d⟩ := strip_spec n h.dropLast (rot s) hr (by rw [List.length_dropLast]; omega)
      refine ⟨fun k => (a k).trans (strip_step hc.1 hs hc.2 k), b.trans (rot_len s), ?_, d⟩
      rw [List.length_dropLast] at c; omega
    · rw [if_neg hc]
      refine ⟨fun _ => rfl, rfl, Nat.le_refl _, ?_⟩
      by_cases he : h = []
      · exact .inl he
      · exact .inr fun z => hc ⟨he, z⟩
def sett (h c : List Bool) : List Bool × List Bool := strip h.length h (shortest c)
/-- what is settled -/
structure Stl (f : Nat → Bool) (r s : List Bool) : Prop where
  pos : s ≠ []
  eq : ∀ k, atq r s k = f k
  ev : EvP f s.length
  least : ∀ d, EvP f d → s.length ≤ d
  last : r = [] ∨ r.getLast? ≠ s.getLast?
theorem sett_stl {h c : List Bool} (hc : c ≠ []) : Stl (atq h c) (sett h c).1 (sett h c).2 ∧ (sett h c).1.length ≤ h.length := by
  obtain ⟨h0, h1, h2, h3⟩ := shortest_least (h := h) hc
  have hs : shortest c ≠ [] := List.length_pos_iff.mp h0
  obtain ⟨a, b, d, e⟩ := strip_spec h.length h (shortest c) hs (Nat.le_refl _)
  refine ⟨⟨List.length_pos_iff.mp (by show 0 < (strip _ _ _).2.length; rw [b]; exact h0), fun k => (a k).trans (h1 k), by show EvP _ (strip _ _ _).2.length; rw [b]; exact h2, fun d hd => by show (strip _ _ _).2.length ≤ d; rw [b]; exact h3 d hd, e⟩, d⟩
theorem Stl.last_ne {f : Nat → Bool} {r s : List Bool} (x : Stl f r s) (hr : r ≠ []) : f (r.length - 1) ≠ f (r.length - 1 + s.length) := by
  have r0 : 0 < r.length := List.length_pos_iff.mpr hr
  have s0 : 0 < s.length := List.length_pos_iff.mpr x.pos
  have e1 : f (r.length - 1) = r.getD (r.length - 1) false := by rw [← x.eq]; unfold atq; rw [if_pos (by omega)]
  have e2 : f (r.length - 1 + s.length) = s.getD (s.length - 1) false := by
    rw [← x.eq]; unfold atq
    rw [if_neg (by omega), show r.length - 1 + s.length - r.length = s.length - 1 by omega, Nat.mod_eq_of_lt (by omega)]
  rw [e1, e2]
  intro e
  rcases x.last with z | z
  · exact hr z
  · exact z (by rw [getLast_getD hr, getLast_getD x.pos, e])
theorem Stl.per {f : Nat → Bool} {r s : List Bool} (x : Stl f r s) (k : Nat) (hk : r.length ≤ k) : f (k + s.length) = f k := by
  rw [← x.eq, ← x.eq]; unfold atq
  rw [if_neg (by omega), if_neg (by omega), show k + s.length - r.length = (k - r.length) + s.length by omega, Nat.add_mod_right]
theorem Stl.le {f : Nat → Bool} {r s r' s' : List Bool} (x : Stl f r s) (y : Stl f r' s') : r.length ≤ r'.length := Nat.le_of_not_lt fun hlt => by
  have hr : r ≠ [] := List.length_pos_iff.mp (by omega)
  have hp : s.length = s'.length := Nat.le_antisymm (x.least _ y.ev) (y.least _ x.ev)
  refine x.last_ne hr ?_
  rw [hp]
  exact (y.per _ (by omega)).symm
theorem Stl.unique {f : Nat → Bool} {r s r' s' : List Bool} (x : Stl f r s) (y : Stl f r' s') : r = r' ∧ s = s' := by
  have hl : r.length = r'.length := Nat.le_antisymm (x.le y) (y.le x)
  have hp : s.length = s'.length := Nat.le_antisymm (x.least _ y.ev) (y.least _ x.ev)
  constructor
  · refine list_ext hl fun k hk => ?_
    have a := x.eq k
    have b := y.eq k
    unfold atq at a b
    rw [if_pos hk] at a
    rw [if_pos (by omega)] at b
    rw [a, b]
  · refine list_ext hp fun k hk => ?_
    have a := x.eq (r.length + k)
    have b := y.eq (r.length + k)
    unfold atq at a b
    rw [if_neg (by omega), Nat.add_sub_cancel_left, Nat.mod_eq_of_lt hk] at a
    rw [if_neg (by omega), hl, Nat.add_sub_cancel_left, Nat.mod_eq_of_lt (by omega), ← hl] at b
    rw [a, b]
/-! what the law looks at: sixty numbers -/
def same60 (h c o t : List Bool) : Bool := (List.range 60).all fun k => atq h c k == atq o t k
theorem same60_iff {h c o t : List Bool} : same60 h c o t = true ↔ ∀ k, k < 60 → atq h c k = atq o t k := by
  unfold same60
  simp [List.all_eq_true]
theorem atq_rp {s : List Bool} (hs : s ≠ []) {m : Nat} (hm : 0 < m) (k : Nat) : atq [] (rp m s) k = atq [] s k := by
  have s0 : 0 < s.length := List.length_pos_iff.mpr hs
  unfold atq
  rw [if_neg (by simp), if_neg (by simp), rp_len]
  have : 0 < m * s.length := Nat.mul_pos hm s0
  rw [rp_get _ _ _ (Nat.mod_lt _ this), Nat.mod_mod_of_dvd _ (Nat.dvd_mul_left _ _)]
theorem win_cycle {c : List Bool} (hc : c ≠ []) (hn : c.length ≤ 20) {L : Nat} (h0 : 0 < L) (hL : L ≤ c.length) (hw : same60 [] c [] (c.take L) = true) : (shortest c).length ≤ L := by
  have n0 : 0 < c.length := List.length_pos_iff.mpr hc
  refine (shortest_least (h := []) hc).2.2.2 L ⟨h0, 0, fun k _ => ?_⟩
  rw [same60_iff] at hw
  have tl : (c.take L).length = L := by rw [List.length_take]; omega
  have a : ∀ j, atq [] c j = atq [] c (j % c.length) := fun j => by
    unfold atq
    rw [if_neg (by simp), if_neg (by simp)]
    simp
  have hk : k % c.length < c.length := Nat.mod_lt _ n0
  have e1 : atq [] c (k + L) = atq [] c (k % c.length + L) := by
    rw [a (k + L), a (k % c.length + L), Nat.mod_add_mod]
  rw [e1, hw _ (by omega), a k, hw _ (by omega)]
  unfold atq
  rw [if_neg (by simp), if_neg (by simp), tl]
  simp
theorem win_short {c : List Bool} (hc : c ≠ []) : same60 [] c [] (c.take (shortest c).length) = true := by
  obtain ⟨L, h0, hL, hs, _⟩ := shortest_spec hc
  have e : c.take (shortest c).length = shortest c := by
    rw [hs, List.length_take, Nat.min_eq_left hL]
  rw [e, same60_iff]
  exact fun k _ => ((shortest_least (h := []) hc).2.1 k).symm
def oth (f : Nat → Bool) (z : Nat) : List Bool := (List.range z).map f
def tur (f : Nat → Bool) (p z : Nat) : List Bool := (List.range p).map fun k => f (z + p * 20 + k)
theorem getD_rng (f : Nat → Bool) (n k : Nat) (h : k < n) : ((List.range n).map f).getD k false = f k := by
  simp [List.getD_eq_getElem?_getD, h]
theorem win_at {h c r s : List Bool} (x : Stl (atq h c) r s) : oth (atq h c) r.length = r ∧ tur (atq h c) s.length r.length = s := by
  have s0 : 0 < s.length := List.length_pos_iff.mpr x.pos
  constructor
  · refine list_ext (by simp [oth]) fun k hk => ?_
    simp only [oth, List.length_map, List.length_range] at hk
    rw [oth, getD_rng _ _ _ hk, ← x.eq]
    unfold atq; rw [if_pos hk]
  · refine list_ext (by simp [tur]) fun k hk => ?_
    simp only [tur, List.length_map, List.length_range] at hk
    rw [tur, getD_rng _ _ _ hk, ← x.eq]
    unfold atq
    rw [if_neg (by omega), show r.length + s.length * 20 + k - r.length = k + s.length * 20 by omega, Nat.add_mul_mod_self_left, Nat.mod_eq_of_lt hk]
theorem win_no {h c r s : List Bool} (x : Stl (atq h c) r s) (hr : r.length ≤ 20) (hs : s.length ≤ 20) {z : Nat} (hz : z < r.length) : same60 h c (oth (atq h c) z) (tur (atq h c) s.length z) = false := by
  have s0 : 0 < s.length := List.length_pos_iff.mpr x.pos
  cases hw : same60 h c (oth (atq h c) z) (tur (atq h c) s.length z) with
  | false => rfl
  | true =>
    exfalso
    rw [same60_iff] at hw
    have hne : r ≠ [] := List.length_pos_iff.mp (by omega)
    refine x.last_ne hne ?_
    rw [hw _ (by omega), hw _ (by omega)]
    unfold atq
    have ol : (oth (fun k => if k < h.length then h.getD k false else c.getD ((k - h.length) % c.length) false) z).length = z := by simp [oth]
    have tl : (tur (fun k => if k < h.length then h.getD k false else c.getD ((k - h.length) % c.length) false) s.length z).length = s.length := by simp [tur]
    rw [ol, tl, if_neg (by omega), if_neg (by omega), show r.length - 1 + s.length - z = r.length - 1 - z + s.length by omega, Nat.add_mod_right]
theorem win_yes {h c r s : List Bool} (x : Stl (atq h c) r s) : same60 h c r s = true := by
  rw [same60_iff]; exact fun k _ => (x.eq k).symm
/-- a longer head, the cycle said more than once, from another place on -/
theorem longer_eq {h c : List Bool} (hc : c ≠ []) (t m : Nat) (hm : 0 < m) (k : Nat) :
    atq (h ++ (List.range t).map fun j => atq h c (h.length + j)) (rp m ((List.range c.length).map fun j => atq h c (h.length + t + j))) k = atq h c k := by
  have n0 : 0 < c.length := List.length_pos_iff.mpr hc
  have bl : ((List.range c.length).map fun j => atq h c (h.length + t + j)).length = c.length := by simp
  generalize hg : (List.range t).map (fun j => atq h c (h.length + j)) = g
  have gl : g.length = t := by rw [← hg]; simp
  generalize hb : (List.range c.length).map (fun j => atq h c (h.length + t + j)) = b at bl
  conv => lhs; unfold atq
  rw [List.length_append, gl, rp_len, bl]
  by_cases h1 : k < h.length + t
  · rw [if_pos h1]
    by_cases h2 : k < h.length
    · rw [getD_app1 _ _ _ _ h2]; unfold atq; rw [if_pos h2]
    · rw [getD_app2 _ _ _ _ (by omega), ← hg, getD_rng _ _ _ (by omega), show h.length + (k - h.length) = k by omega]
  · rw [if_neg h1, rp_get _ _ _ (by rw [bl]; exact Nat.mod_lt _ (Nat.mul_pos hm n0)), bl, Nat.mod_mod_of_dvd _ (Nat.dvd_mul_left _ _), ← hb, getD_rng _ _ _ (Nat.mod_lt _ n0)]
    unfold atq
    rw [if_neg (by omega), if_neg (by omega)]
    congr 1
    rw [show h.length + t + (k - (h.length + t)) % c.length - h.length = (k - (h.length + t)) % c.length + t by omega, Nat.mod_add_mod]
    congr 1; omega
theorem longer_sett {h c : List Bool} (hc : c ≠ []) (t m : Nat) (hm : 0 < m) :
    sett (h ++ (List.range t).map fun j => atq h c (h.length + j)) (rp m ((List.range c.length).map fun j => atq h c (h.length + t + j))) = sett h c := by
  have n0 : 0 < c.length := List.length_pos_iff.mpr hc
  have hr : rp m ((List.range c.length).map fun j => atq h c (h.length + t + j)) ≠ [] := List.length_pos_iff.mp (by rw [rp_len, List.length_map, List.length_range]; exact Nat.mul_pos hm n0)
  have x := (sett_stl (h := h ++ (List.range t).map fun j => atq h c (h.length + j)) hr).1
  rw [funext (longer_eq hc t m hm)] at x
  have y := (sett_stl (h := h) hc).1
  obtain ⟨a, b⟩ := x.unique y
  exact Prod.ext a b

end
section
open PySem L2 DL
/-! ### sets of numbers: what the defs answer -/
def bsD (bs : List Bool) : List D := bs.map D.bl
@[simp] theorem bsD_len (bs : List Bool) : (bsD bs).length = bs.length := by unfold bsD; simp
@[simp] theorem bsD_nil : bsD [] = [] := Eq.trans rfl rfl
theorem bsD_app (a b : List Bool) : bsD (a ++ b) = bsD a ++ bsD b := by unfold bsD; simp
@[simp] theorem bsD_emp (bs : List Bool) : (bsD bs).isEmpty = bs.isEmpty := by unfold bsD; simp
theorem okIs_bs : ∀ bs : List Bool, okIs (bsD bs) = true
  | [] => by rw [bsD, List.map_nil, okIs]
  | b :: bs => by show okIs (.bl b :: bsD bs) = true; rw [okIs, okI, okIs_bs bs]; rfl
theorem deps_bs : ∀ bs : List Bool, deps (bsD bs) = 0
  | [] => by rw [bsD, List.map_nil, deps]
  | b :: bs => by show deps (.bl b :: bsD bs) = 0; rw [deps, dep, deps_bs bs]; rfl
theorem bsD_inj {a b : List Bool} : bsD a = bsD b ↔ a = b := by
  constructor
  · intro h
    exact (List.map_inj_right (fun x y e => by cases e; rfl)).mp h
  · intro h; rw [h]
theorem dEq_bs (a b : List Bool) : dEq (.tup (bsD a)) (.tup (bsD b)) = some (decide (a = b)) := by
  haveI : Decidable (D.tup (bsD a) = D.tup (bsD b)) := decidable_of_iff (a = b) (by rw [D.tup.injEq, bsD_inj])
  rw [dEq_I (by rw [okI]; exact okIs_bs a) (by rw [okI]; exact okIs_bs b) (by rw [dep, deps_bs]; decide) (by rw [dep, deps_bs]; decide)]
  congr 1
  rw [decide_eq_decide, D.tup.injEq, bsD_inj]
def pr (a b : List Bool) : D := .tup [.tup (bsD a), .tup (bsD b)]
theorem pr_inj {a b c d : List Bool} : pr a b = pr c d ↔ a = c ∧ b = d := by
  unfold pr
  simp only [D.tup.injEq, List.cons.injEq, bsD_inj, and_true]
theorem okI_pr (a b : List Bool) : okI (pr a b) = true := by
  unfold pr
  rw [okI, okIs, okIs, okIs, okI, okI, okIs_bs, okIs_bs]; rfl
theorem dep_pr (a b : List Bool) : dep (pr a b) ≤ 64 := by
  unfold pr
  rw [dep, deps, deps, deps, dep, dep, deps_bs, deps_bs]; decide
theorem dEq_pr (a b c d : List Bool) : dEq (pr a b) (pr c d) = some (decide (a = c ∧ b = d)) := by
  haveI : Decidable (pr a b = pr c d) := decidable_of_iff (a = c ∧ b = d) pr_inj.symm
  rw [dEq_I (okI_pr a b) (okI_pr c d) (dep_pr a b) (dep_pr c d)]
  congr 1
  rw [decide_eq_decide, pr_inj]
theorem dEq_bl (a b : Bool) : dEq (.bl a) (.bl b) = some (a == b) := by
  rw [dEq_peq (by rw [okD]) (by rw [okD]) (by rw [dep]; decide) (by rw [dep]; decide), peq_bl]
theorem dEq_int (a b : Int) : dEq (.int a) (.int b) = some (a == b) := by
  rw [dEq_peq (by rw [okD]) (by rw [okD]) (by rw [dep]; decide) (by rw [dep]; decide), peq_int]
theorem getD_map {a : List Bool} {k : Nat} (h : k < a.length) : (bsD a)[k]? = some (.bl (a.getD k false)) := by
  rw [bsD, List.getElem?_map, List.getElem?_eq_getElem h, List.getD_eq_getElem?_getD, List.getElem?_eq_getElem h]; rfl
theorem run_contains (n : Nat) (h c : List Bool) (hc : c ≠ []) (k : Nat) (S : List D) : run (n + 1) 27 [pr h c, .int k] S = .ok (.bl (atq h c k)) S := by
  rw [run_27]
  have hn : 0 < c.length := List.length_pos_iff.mpr hc
  unfold pr
  by_cases hk : k < h.length
  · have g : atI (bsD h) (k : Int) = some (.bl (h.getD k false)) := by rw [atI_get?, getD_map hk]
    simp [B_27, hk, g, atq]
  · have g : atI (bsD c) (((k : Int) - (h.length : Int)) % (c.length : Int)) = some (.bl (c.getD ((k - h.length) % c.length) false)) := by
      rw [show (k : Int) - (h.length : Int) = ((k - h.length : Nat) : Int) by omega, ← Int.natCast_emod, atI_get?, getD_map (Nat.mod_lt _ hn)]
    simp [B_27, hk, g, atq, hn]
/-- a row of drawn truth values -/
theorem forD_find {p : Pat} {kl : List Nat} {β : Ds} {Γ : List Sl} {S : List D} (f : D → Option D) : ∀ (xs : List D), (∀ x ∈ xs, ∃ Γ1 Γ2, p.bind x Γ = some Γ1 ∧ clr kl Γ2 = Γ ∧ β Γ1 S = match f x with | some d => .ret d S | none => .next Γ2 S) →
    forD p kl β xs Γ S = match xs.findSome? f with | some d => .ret d S | none => .next Γ S
  | [], _ => rfl
  | x :: xs, h => by
    obtain ⟨Γ1, Γ2, h1, h2, h3⟩ := h x List.mem_cons_self
    rw [forD, h1]
    simp only
    rw [h3, List.findSome?_cons]
    cases f x with
    | some d => rfl
    | none =>
      simp only
      rw [h2]
      exact forD_find f xs fun y hy => h y (List.mem_cons_of_mem _ hy)
theorem cut_take (bs : List Bool) (L : Nat) : cutD (bsD bs) none (some (L : Int)) = bsD (bs.take L) := by
  unfold cutD
  rw [HT.sIx_none, HT.sIx_nat, List.drop_zero, Nat.sub_zero, bsD, List.length_map, bsD, List.map_take]
  by_cases h : L ≤ bs.length
  · rw [Nat.min_eq_left h]
  · rw [Nat.min_eq_right (by omega), List.take_of_length_le (by simp), List.take_of_length_le (by simp; omega)]
theorem sIx_m1 (n d : Nat) : HT.sIx n d (some (-1)) = n - 1 := by
  show (if (-1 : Int) < 0 then (-1 + (n : Int)).toNat else min (-1 : Int).toNat n) = n - 1
  rw [if_pos (by decide)]; omega
theorem cut_m1 (bs : List Bool) : cutD (bsD bs) (some (-1)) none = bsD (bs.drop (bs.length - 1)) := by
  unfold cutD
  rw [sIx_m1, HT.sIx_none, bsD, List.length_map, bsD, List.map_drop, List.take_of_length_le (by simp)]
theorem cut_0m1 (bs : List Bool) : cutD (bsD bs) none (some (-1)) = bsD (bs.take (bs.length - 1)) := by
  unfold cutD
  rw [sIx_m1, HT.sIx_none, bsD, List.length_map, bsD, List.map_take, List.drop_zero, Nat.sub_zero]
theorem bsD_rp (m : Nat) (s : List Bool) : (List.replicate m (bsD s)).flatten = bsD (rp m s) := by
  unfold rp
  induction m with
  | zero => rfl
  | succ m ih => rw [List.replicate_succ, List.flatten_cons, ih, List.replicate_succ, List.flatten_cons, bsD, bsD, bsD, List.map_append]
theorem dMul_bs {s : List Bool} {k : Int} (h1 : 1 ≤ k) (h2 : k ≤ 1000) (h3 : s.length ≤ 1000) : dMul (.tup (bsD s)) (.int k) = some (.tup (bsD (rp k.toNat s))) := by
  show (if 1 ≤ k ∧ k ≤ 1000 ∧ (bsD s).length ≤ 1000 then some (D.tup (List.replicate k.toNat (bsD s)).flatten) else none) = _
  rw [if_pos ⟨h1, h2, by rw [bsD, List.length_map]; exact h3⟩, bsD_rp]
theorem cEq_bs (a b : List Bool) : cEq (.tup (bsD a)) (.tup (bsD b)) = some (.bl (decide (a = b))) := by unfold cEq; rw [dEq_bs]; rfl
theorem run_shortest (n : Nat) (c : List Bool) (hc : c ≠ []) (hl : c.length ≤ 400) (S : List D) : run (n + 1) 25 [.tup (bsD c)] S = .ok (.tup (bsD (shortest c))) S := by
  rw [run_25]
  have hn : 0 < c.length := List.length_pos_iff.mpr hc
  have h1 : inR 1 = true := by decide
  have h2 : inR ((c.length : Int) + 1) = true := inR_of (by omega)
  have e : ((c.length : Int) + 1 - 1).toNat = c.length := by omega
  have key := forD_find (p := .nm 1) (kl := [1]) (β := L_25_1 (run n)) (Γ := [.val (.tup (bsD c)), .non]) (S := S) (fun d => match d with | .int L => if cond c L.toNat then some (.tup (bsD (c.take L.toNat))) else none | _ => none) (rangeD 1 c.length) fun x hx => by
    obtain ⟨j, hj, rfl⟩ := rangeD_mem hx
    obtain ⟨L, hL⟩ : ∃ L : Nat, L = j + 1 := ⟨_, rfl⟩
    rw [show (1 : Int) + (j : Int) = (L : Int) by omega]
    refine ⟨_, [.val (.tup (bsD c)), .val (.int L)], x_bnm, rfl, ?_⟩
    obtain ⟨q, hq⟩ : ∃ q : Nat, q = c.length / L := ⟨_, rfl⟩
    have m1 : ((c.length : Int) % (L : Int) == 0) = (c.length % L == 0) := by
      rw [← Int.natCast_emod, Bool.eq_iff_iff, beq_iff_eq, beq_iff_eq, Int.natCast_eq_zero]
    have k1 : 0 < L := by omega
    have k2 : (L : Int) < 1073741824 := by omega
    have dv : (c.length : Int) / (L : Int) = (q : Int) := by rw [hq]; exact (Int.natCast_ediv _ _).symm
    have dq : 1 ≤ q := by rw [hq, Nat.le_div_iff_mul_le (by omega)]; omega
    have dq2 : q ≤ c.length := by rw [hq]; exact Nat.div_le_self _ _
    have mm : dMul (.tup (bsD (c.take L))) (.int (q : Int)) = some (.tup (bsD (rp q (c.take L)))) := by
      rw [dMul_bs (by omega) (by omega) (by rw [List.length_take]; omega), Int.toNat_natCast]
    have hc2 : cond c L = (c.length % L == 0 && decide (rp q (c.take L) = c)) := by unfold cond; rw [hq]
    simp only [Int.toNat_natCast]
    rw [hc2]
    by_cases hd : c.length % L = 0
    · by_cases he : rp q (c.take L) = c
      · simp [e_L_25_1, k1, k2, m1, cut_take, dv, mm, hd, he, cEq_bs]
      · simp [e_L_25_1, k1, k2, m1, cut_take, dv, mm, hd, he, cEq_bs]
    · simp [e_L_25_1, k1, k2, m1, hd]
  have fs : (rangeD 1 c.length).findSome? (fun d => match d with | .int L => if cond c L.toNat then some (.tup (bsD (c.take L.toNat))) else none | _ => none) = ((List.range c.length).findSome? fun j => if cond c (j + 1) then some (c.take (j + 1)) else none).map fun s => D.tup (bsD s) := by
    unfold rangeD
    rw [List.findSome?_map, List.map_findSome?]
    refine congrArg (fun f => List.findSome? f (List.range c.length)) (funext fun j => ?_)
    have ej : (1 + (j : Int)).toNat = j + 1 := by omega
    show (if cond c (1 + (j : Int)).toNat = true then some (D.tup (bsD (c.take (1 + (j : Int)).toNat))) else none) = Option.map (fun s => D.tup (bsD s)) (if cond c (j + 1) = true then some (c.take (j + 1)) else none)
    rw [ej]
    split <;> rfl
  rw [fs] at key
  unfold shortest
  cases hz : (List.range c.length).findSome? fun j => if cond c (j + 1) then some (c.take (j + 1)) else none with
  | none => rw [hz] at key; simp [B_25, h1, h2, e, key]
  | some s => rw [hz] at key; simp [B_25, h1, h2, e, key]
theorem cEq_bl (a b : Bool) : cEq (.bl a) (.bl b) = some (.bl (a == b)) := by unfold cEq; rw [dEq_bl]; rfl
theorem settle_loop (n : Nat) (a b : Sl) (S : List D) : ∀ (m : Nat) (h s : List Bool) (fu : Nat), s ≠ [] → h.length ≤ m → m < fu → s.length + 2 ≤ 1000 → h.length + 2 ≤ 1000 →
    whileD (T_26_2 (run n)) [] (L_26_1 (run n)) fu [a, b, .val (.tup (bsD s)), .val (.tup (bsD h))] S = .next [a, b, .val (.tup (bsD (strip m h s).2)), .val (.tup (bsD (strip m h s).1))] S
  | m, h, s, 0, hs, hm, hf, hl, hl2 => by omega
  | m, h, s, fu + 1, hs, hm, hf, hl, hl2 => by
    have s0 : 0 < s.length := List.length_pos_iff.mpr hs
    rw [whileD]
    by_cases he : h = []
    · subst he
      have e1 : strip m [] s = ([], s) := by cases m with
        | zero => rfl
        | succ m => unfold strip; rw [if_neg (fun z => z.1 rfl)]
      simp [e_T_26_2, e1]
    · have h0 : 0 < h.length := List.length_pos_iff.mpr he
      have hb : h.isEmpty = false := by cases h with
        | nil => exact absurd rfl he
        | cons _ _ => rfl
      have g1 : atI (bsD h) (-1) = some (.bl (h.getD (h.length - 1) false)) := by rw [atI_neg1, List.getLast?_eq_getElem?, bsD_len, getD_map (by omega)]
      have g2 : atI (bsD s) (-1) = some (.bl (s.getD (s.length - 1) false)) := by rw [atI_neg1, List.getLast?_eq_getElem?, bsD_len, getD_map (by omega)]
      have lasts : h.getLast? = s.getLast? ↔ h.getD (h.length - 1) false = s.getD (s.length - 1) false := by
        rw [getLast_getD he, getLast_getD hs]; simp
      generalize hx : h.getD (h.length - 1) false = x at g1 lasts
      generalize hy : s.getD (s.length - 1) false = y at g2 lasts
      cases m with
      | zero => omega
      | succ m =>
        by_cases hc : x = y
        · have e1 : strip (m + 1) h s = strip m h.dropLast (rot s) := by
            conv => lhs; unfold strip
            rw [if_pos ⟨he, lasts.mpr hc⟩]
          have hr : rot s ≠ [] := fun e => hs (List.eq_nil_of_length_eq_zero (by rw [← rot_len, e]; rfl))
          have ih := settle_loop n a b S m h.dropLast (rot s) fu hr (by rw [List.length_dropLast]; omega) (by omega) (by rw [rot_len]; exact hl) (by rw [List.length_dropLast]; omega)
          have ad : dAdd (.tup (bsD (s.drop (s.length - 1)))) (.tup (bsD (s.take (s.length - 1)))) = some (.tup (bsD (rot s))) := by
            rw [dAdd_tup (by simp; omega), ← bsD_app]; rfl
          have dl : bsD (h.take (h.length - 1)) = bsD h.dropLast := by rw [List.dropLast_eq_take]
          rw [e1, ← ih]
          simp [e_T_26_2, e_L_26_1, hb, g1, g2, cEq_bl, hc, cut_m1, cut_0m1, ad, dl]
        · have e1 : strip (m + 1) h s = (h, s) := by
            unfold strip
            rw [if_neg (fun z => hc (lasts.mp z.2))]
          simp [e_T_26_2, hb, g1, g2, cEq_bl, hc, e1]
/-- a row handed on as a tuple or as a list -/
def rowD (b : Bool) (bs : List Bool) : D := if b then .lst (bsD bs) else .tup (bsD bs)
theorem run_settled (n : Nat) (b1 b2 : Bool) (h c : List Bool) (hc : c ≠ []) (h1 : h.length ≤ 400) (h2 : c.length ≤ 400) (S : List D) : run (n + 2) 26 [rowD b1 h, rowD b2 c] S = .ok (pr (sett h c).1 (sett h c).2) S := by
  rw [run_26]
  have t1 : dTuple (deref S (rowD b1 h)) = some (.tup (bsD h)) := by cases b1 <;> rfl
  have t2 : dTuple (deref S (rowD b2 c)) = some (.tup (bsD c)) := by cases b2 <;> rfl
  have sl : (shortest c).length ≤ c.length := by
    obtain ⟨L, _, _, e, _⟩ := shortest_spec hc
    rw [e, List.length_take]; omega
  have hs : shortest c ≠ [] := List.length_pos_iff.mp (shortest_least (h := h) hc).1
  have k := settle_loop (n + 1) (.val (rowD b1 h)) (.val (rowD b2 c)) S h.length h (shortest c) fuel hs (Nat.le_refl _) (by show h.length < 1000000; omega) (by omega) (by omega)
  simp [B_26, t1, t2, run_shortest n c hc h2, k, sett, pr]
theorem rangeD_split (lo : Int) (n j : Nat) (h : j < n) : ∃ post, rangeD lo n = rangeD lo j ++ .int (lo + j) :: post := by
  refine ⟨((List.range (n - j - 1)).map fun (k : Nat) => D.int (lo + ((j + 1 + k : Nat) : Int))), ?_⟩
  unfold rangeD
  rw [show n = j + (1 + (n - j - 1)) by omega, List.range_add, List.map_append]
  congr 1
  rw [List.range_add, List.map_append, List.map_append]
  simp
  intro a _
  omega
theorem forD_first {p : Pat} {kl : List Nat} {β : Ds} {Γ : List Sl} {S : List D} {d x : D} {post : List D} : ∀ (pre : List D), (∀ y ∈ pre, ∃ Γ1 Γ2, p.bind y Γ = some Γ1 ∧ clr kl Γ2 = Γ ∧ β Γ1 S = .next Γ2 S) →
    (∃ Γ1, p.bind x Γ = some Γ1 ∧ β Γ1 S = .ret d S) → forD p kl β (pre ++ x :: post) Γ S = .ret d S
  | [], _, ⟨Γ1, h1, h2⟩ => by rw [List.nil_append, forD, h1]; simp only; rw [h2]
  | y :: pre, h, hx => by
    obtain ⟨Γ1, Γ2, h1, h2, h3⟩ := h y List.mem_cons_self
    rw [List.cons_append, forD, h1]
    simp only
    rw [h3]
    simp only
    rw [h2]
    exact forD_first pre (fun z hz => h z (List.mem_cons_of_mem _ hz)) hx
theorem comp_rng {ε : De} {Γ : List Sl} {S : List D} {i : Nat} (g : Nat → Bool) (n : Nat) (h : ∀ k, k < n → ε (Γ.set i (.val (.int k))) S = .ok (.bl (g k)) S) :
    compD (.nm i) tTrue ε (rangeD 0 n) Γ S = .ok (bsD ((List.range n).map g)) S := by
  rw [compD_pure (f := fun d => match d with | .int k => .bl (g k.toNat) | d => d) (rangeD 0 n) fun x hx => by
    obtain ⟨j, hj, rfl⟩ := rangeD_mem hx
    rw [Int.zero_add]
    exact ⟨_, x_bnm, by rw [h j hj]; simp⟩]
  congr 1
  unfold rangeD bsD
  rw [List.map_map, List.map_map]
  simp
theorem lenOk_bs {bs : List Bool} (h : bs.length ≤ 1000) : lenOk (bsD bs) = some (.lst (bsD bs)) := lenOk_of (by rw [bsD_len]; omega)

end
section
open PySem L2 DL
/-! ### sets put together -/
structure SOk (s : List Bool × List Bool) : Prop where
  ne : s.2 ≠ []
  dv : s.2.length ∣ 60
  hd : s.1.length ≤ 20
def mem (s : List Bool × List Bool) (k : Nat) : Bool := atq s.1 s.2 k
def eSt (s : List Bool × List Bool) : D := pr s.1 s.2
theorem SOk.c0 {s : List Bool × List Bool} (h : SOk s) : 0 < s.2.length := List.length_pos_iff.mpr h.ne
theorem SOk.c3 {s : List Bool × List Bool} (h : SOk s) : s.2.length ≤ 60 := Nat.le_of_dvd (by decide) h.dv
theorem sett_ok {h c : List Bool} (hc : c ≠ []) (hd : c.length ∣ 60) (hh : h.length ≤ 20) : SOk (sett h c) := by
  obtain ⟨x, hl⟩ := sett_stl (h := h) hc
  obtain ⟨L, l0, l1, e, cd, _⟩ := shortest_spec hc
  have hs : shortest c ≠ [] := List.length_pos_iff.mp (shortest_least (h := h) hc).1
  have l2 : (sett h c).2.length = (shortest c).length := (strip_spec h.length h (shortest c) hs (Nat.le_refl _)).2.1
  have l3 : (shortest c).length = L := by rw [e, List.length_take]; omega
  exact ⟨x.pos, by rw [l2, l3]; exact Nat.dvd_trans ((cond_iff l0 l1).mp cd).1 hd, by omega⟩
theorem sett_mem {h c : List Bool} (hc : c ≠ []) (k : Nat) : mem (sett h c) k = atq h c k := (sett_stl hc).1.eq k
theorem gcd_loop (n : Nat) (S : List D) : ∀ (b a fu : Nat), b < fu → whileD (T_24_2 (run n)) [] (L_24_1 (run n)) fu [.val (.int a), .val (.int b)] S = .next [.val (.int (Nat.gcd a b : Nat)), .val (.int 0)] S := by
  intro b
  induction b using Nat.strongRecOn with
  | ind b ih =>
    intro a fu hf
    obtain ⟨f, rfl⟩ : ∃ f, fu = f + 1 := ⟨fu - 1, by omega⟩
    by_cases h0 : b = 0
    · subst h0
      have ht : T_24_2 (run n) [.val (.int a), .val (.int (0 : Nat))] S = .ok false S := by simp [e_T_24_2]
      rw [whileD, ht, after_ok, Nat.gcd_zero_right]; rfl
    · have hb : 0 < b := Nat.pos_of_ne_zero h0
      have ht : T_24_2 (run n) [.val (.int a), .val (.int b)] S = .ok true S := by simp [e_T_24_2, hb]
      have hl : L_24_1 (run n) [.val (.int a), .val (.int b)] S = .next [.val (.int b), .val (.int (a % b : Nat))] S := by
        simp [e_L_24_1, hb]
      have i2 := ih (a % b) (Nat.mod_lt _ hb) b f (by have := Nat.mod_lt a hb; omega)
      have eg : Nat.gcd a b = Nat.gcd b (a % b) := by
        rw [Nat.gcd_comm a b, Nat.gcd_rec b a, Nat.gcd_comm]
      rw [whileD, ht, after_ok, if_pos rfl, hl]
      simp only [x_clr0]
      rw [i2, eg]
theorem run_gcd (n a b : Nat) (hb : b < 1000) (S : List D) : run (n + 1) 24 [.int a, .int b] S = .ok (.int (Nat.gcd a b : Nat)) S := by
  rw [run_24]
  have := gcd_loop n S b a fuel (by unfold fuel; omega)
  simp [B_24, this]
theorem run_shared (n : Nat) {a b : List Bool × List Bool} (ha : SOk a) (hb : SOk b) (S : List D) : run (n + 2) 28 [eSt a, eSt b] S = .ok (.tup [.int (max a.1.length b.1.length : Nat), .int (Nat.lcm a.2.length b.2.length : Nat)]) S := by
  show run (n + 1 + 1) 28 [eSt a, eSt b] S = _
  rw [run_28]
  have g := run_gcd n a.2.length b.2.length (by have := hb.c3; omega) S
  have i0 : ∀ x y : D, atI [x, y] 0 = some x := fun _ _ => rfl
  have i1 : ∀ x y : D, atI [x, y] 1 = some y := fun _ _ => rfl
  have dm : dMul (.int (a.2.length : Int)) (.int (b.2.length : Int)) = some (.int ((a.2.length : Int) * (b.2.length : Int))) := dMul_int (by have := hb.c3; omega)
  have g0 : 0 < Nat.gcd a.2.length b.2.length := Nat.gcd_pos_of_pos_left _ ha.c0
  have mx : (if (b.1.length : Int) > (a.1.length : Int) then (b.1.length : Int) else (a.1.length : Int)) = ((max a.1.length b.1.length : Nat) : Int) := by
    split <;> omega
  have dv : ((a.2.length : Int) * (b.2.length : Int)) / ((Nat.gcd a.2.length b.2.length : Nat) : Int) = ((Nat.lcm a.2.length b.2.length : Nat) : Int) := by
    unfold Nat.lcm
    rw [Int.natCast_ediv, Int.natCast_mul]
  have dx : dMax (.int (a.1.length : Int)) (.int (b.1.length : Int)) = some (.int ((max a.1.length b.1.length : Nat) : Int)) := by rw [dMax_int, mx]
  have df : fDiv (.int ((a.2.length : Int) * (b.2.length : Int))) (.int ((Nat.gcd a.2.length b.2.length : Nat) : Int)) = some (.int ((Nat.lcm a.2.length b.2.length : Nat) : Int)) := by
    rw [← dv]
    have g3 : Nat.gcd a.2.length b.2.length ≤ 60 := Nat.le_trans (Nat.gcd_le_left _ ha.c0) ha.c3
    exact if_pos (decide_eq_true (by omega))
  unfold eSt pr
  generalize ((max a.1.length b.1.length : Nat) : Int) = m at *
  generalize ((Nat.lcm a.2.length b.2.length : Nat) : Int) = l at *
  generalize ((Nat.gcd a.2.length b.2.length : Nat) : Int) = gg at *
  simp [-dMax_int, B_28, i0, i1, g, dm, dx, df]
def fF : Nat → Bool → Bool → Bool
  | 1, x, y => x || y
  | 2, x, y => x && y
  | _, x, y => x && !y
def Lk3 (k : Nat) : Prop := k = 1 ∨ k = 2 ∨ k = 3
theorem run_lam (n : Nat) {k : Nat} (hk : Lk3 k) (x y : Bool) (S : List D) : lamL (run (n + 1)) k [.bl x, .bl y] S = .ok (.bl (fF k x y)) S := by
  rcases hk with rfl | rfl | rfl
  · rw [show lamL (run (n + 1)) 1 = run (n + 1) 5001 from rfl, run_5001]
    cases x <;> cases y <;> simp [B_5001, lamRun, fF]
  · rw [show lamL (run (n + 1)) 2 = run (n + 1) 5002 from rfl, run_5002]
    cases x <;> cases y <;> simp [B_5002, lamRun, fF]
  · rw [show lamL (run (n + 1)) 3 = run (n + 1) 5003 from rfl, run_5003]
    cases x <;> cases y <;> simp [B_5003, lamRun, fF]
/-- the row of a function, cut into head and cycle -/
theorem atq_row (g : Nat → Bool) (H L : Nat) (hL : 0 < L) (per : ∀ i, H ≤ i → g (i + L) = g i) (i : Nat) : atq (((List.range (H + L)).map g).take H) (((List.range (H + L)).map g).drop H) i = g i := by
  have lt : (((List.range (H + L)).map g).take H).length = H := by simp
  have ld : (((List.range (H + L)).map g).drop H).length = L := by simp
  have key : ∀ m j, H ≤ j → g (j + L * m) = g j := by
    intro m
    induction m with
    | zero => intro j _; rfl
    | succ m ih => intro j hj; rw [Nat.mul_succ, ← Nat.add_assoc, per _ (by omega), ih j hj]
  unfold atq
  rw [lt, ld]
  by_cases h : i < H
  · rw [if_pos h]
    simp [List.getD_eq_getElem?_getD, List.getElem?_take, h, show i < H + L by omega]
  · rw [if_neg h]
    have hm := Nat.mod_lt (i - H) hL
    have e : g (H + (i - H) % L) = g i := by
      rw [← key ((i - H) / L) (H + (i - H) % L) (by omega)]
      congr 1
      have := Nat.mod_add_div (i - H) L
      omega
    simp [List.getD_eq_getElem?_getD, List.getElem?_drop, hm, e]
theorem mem_per {s : List Bool × List Bool} (hs : SOk s) {L i : Nat} (hL : s.2.length ∣ L) (hi : s.1.length ≤ i) : mem s (i + L) = mem s i := by
  obtain ⟨q, rfl⟩ := hL
  unfold mem atq
  rw [if_neg (by omega), if_neg (by omega)]
  congr 1
  rw [show i + s.2.length * q - s.1.length = (i - s.1.length) + s.2.length * q by omega, Nat.add_mul_mod_self_left]
def putH (a b : List Bool × List Bool) : Nat := max a.1.length b.1.length
def putL (a b : List Bool × List Bool) : Nat := Nat.lcm a.2.length b.2.length
def putR (k : Nat) (a b : List Bool × List Bool) : List Bool := (List.range (putH a b + putL a b)).map fun i => fF k (mem a i) (mem b i)
def put (k : Nat) (a b : List Bool × List Bool) : List Bool × List Bool := sett ((putR k a b).take (putH a b)) ((putR k a b).drop (putH a b))
theorem putL_dvd {a b : List Bool × List Bool} (ha : SOk a) (hb : SOk b) : putL a b ∣ 60 := Nat.lcm_dvd ha.dv hb.dv
theorem putL_pos {a b : List Bool × List Bool} (ha : SOk a) (hb : SOk b) : 0 < putL a b := Nat.pos_of_dvd_of_pos (putL_dvd ha hb) (by decide)
theorem putL_le {a b : List Bool × List Bool} (ha : SOk a) (hb : SOk b) : putL a b ≤ 60 := Nat.le_of_dvd (by decide) (putL_dvd ha hb)
theorem putH_le {a b : List Bool × List Bool} (ha : SOk a) (hb : SOk b) : putH a b ≤ 20 := Nat.max_le.mpr ⟨ha.hd, hb.hd⟩
theorem putT_len (k : Nat) (a b : List Bool × List Bool) : ((putR k a b).take (putH a b)).length = putH a b := by unfold putR; simp
theorem putD_len (k : Nat) (a b : List Bool × List Bool) : ((putR k a b).drop (putH a b)).length = putL a b := by unfold putR; simp
theorem putD_ne (k : Nat) {a b : List Bool × List Bool} (ha : SOk a) (hb : SOk b) : (putR k a b).drop (putH a b) ≠ [] := List.length_pos_iff.mp (by rw [putD_len]; exact putL_pos ha hb)
theorem put_ok (k : Nat) {a b : List Bool × List Bool} (ha : SOk a) (hb : SOk b) : SOk (put k a b) :=
  sett_ok (putD_ne k ha hb) (by rw [putD_len]; exact putL_dvd ha hb) (by rw [putT_len]; exact putH_le ha hb)
theorem put_mem (k : Nat) {a b : List Bool × List Bool} (ha : SOk a) (hb : SOk b) (i : Nat) : mem (put k a b) i = fF k (mem a i) (mem b i) := by
  unfold put
  rw [sett_mem (putD_ne k ha hb)]
  refine atq_row (fun i => fF k (mem a i) (mem b i)) (putH a b) (putL a b) (putL_pos ha hb) (fun j hj => ?_) i
  show fF k _ _ = fF k _ _
  have h1 : a.1.length ≤ j := Nat.le_trans (Nat.le_max_left _ _) hj
  have h2 : b.1.length ≤ j := Nat.le_trans (Nat.le_max_right _ _) hj
  rw [mem_per ha (L := putL a b) (Nat.dvd_lcm_left _ _) h1, mem_per hb (L := putL a b) (Nat.dvd_lcm_right _ _) h2]
theorem cut_drop (bs : List Bool) (L : Nat) : cutD (bsD bs) (some (L : Int)) none = bsD (bs.drop L) := by
  unfold cutD
  rw [HT.sIx_none, HT.sIx_nat, bsD, List.length_map, bsD, List.map_drop]
  by_cases h : L ≤ bs.length
  · rw [Nat.min_eq_left h, List.take_of_length_le (by simp)]
  · rw [Nat.min_eq_right (by omega), List.drop_eq_nil_of_le (by simp), List.drop_eq_nil_of_le (by simp; omega)]; exact List.take_nil
theorem run_put (n : Nat) {k : Nat} (hk : Lk3 k) {a b : List Bool × List Bool} (ha : SOk a) (hb : SOk b) (S : List D) : run (n + 3) 29 [eSt a, eSt b, .fn k (lamT k)] S = .ok (eSt (put k a b)) S := by
  show run (n + 2 + 1) 29 [eSt a, eSt b, .fn k (lamT k)] S = _
  rw [run_29]
  have sh := run_shared n ha hb S
  have hH := putH_le ha hb
  have hL := putL_le ha hb
  have hr : inR ((putH a b : Int) + (putL a b : Int)) = true := by
    unfold inR
    exact decide_eq_true (by omega)
  have cm := comp_rng (i := 6) (ε := C_29_1 (run (n + 2))) (Γ := [.val (eSt a), .val (eSt b), .val (.fn k (lamT k)), .val (.int (putH a b : Nat)), .val (.int (putL a b : Nat)), .non, .non]) (S := S) (fun i => fF k (mem a i) (mem b i)) (putH a b + putL a b) (fun j _ => by
    have c1 := run_contains (n + 1) a.1 a.2 ha.ne j S
    have c2 := run_contains (n + 1) b.1 b.2 hb.ne j S
    have lm := run_lam (n + 1) hk (mem a j) (mem b j) S
    show C_29_1 (run (n + 2)) [.val (eSt a), .val (eSt b), .val (.fn k (lamT k)), .val (.int (putH a b : Nat)), .val (.int (putL a b : Nat)), .non, .val (.int j)] S = _
    rw [e_C_29_1, x_eCallL (k := k) rfl]
    replace c1 : run (n + 2) 27 [eSt a, .int j] S = .ok (.bl (mem a j)) S := c1
    replace c2 : run (n + 2) 27 [eSt b, .int j] S = .ok (.bl (mem b j)) S := c2
    simp [c1, c2, lm])
  have lo := lenOk_bs (bs := putR k a b) (by unfold putR; rw [List.length_map, List.length_range]; omega)
  have st := run_settled n true true ((putR k a b).take (putH a b)) ((putR k a b).drop (putH a b)) (putD_ne k ha hb) (by rw [putT_len]; omega) (by rw [putD_len]; omega) S
  replace st : run (n + 2) 26 [.lst (bsD ((putR k a b).take (putH a b))), .lst (bsD ((putR k a b).drop (putH a b)))] S = .ok (eSt (put k a b)) S := st
  have k1 := cut_take (putR k a b) (putH a b)
  have k2 := cut_drop (putR k a b) (putH a b)
  have ea : ((putH a b : Int) + (putL a b : Int)).toNat = putH a b + putL a b := by omega
  replace sh : run (n + 2) 28 [eSt a, eSt b] S = .ok (.tup [.int (putH a b : Nat), .int (putL a b : Nat)]) S := sh
  replace cm : compD (.nm 6) tTrue (C_29_1 (run (n + 2))) (rangeD 0 (putH a b + putL a b)) [.val (eSt a), .val (eSt b), .val (.fn k (lamT k)), .val (.int (putH a b : Nat)), .val (.int (putL a b : Nat)), .non, .non] S = .ok (bsD (putR k a b)) S := cm
  generalize eSt (put k a b) = R0 at *
  generalize eSt a = A0 at *
  generalize eSt b = B0 at *
  generalize bsD ((putR k a b).take (putH a b)) = t1 at *
  generalize bsD ((putR k a b).drop (putH a b)) = t2 at *
  generalize bsD (putR k a b) = t3 at *
  have dc1 : ∀ lo hi, dCut (.lst t3) lo hi = some (.lst (cutD t3 lo hi)) := fun _ _ => rfl
  simp [B_29, sh, hr, ea, cm, lo, dc1, k1, k2, st]

end
section
open PySem L2 DL
/-! ### the law's draws -/
theorem run_cell (n : Nat) (ns : List Int) (k : Nat) (S : List D) : run (n + 1) 1000 [.scr ns, .int k] S = .ok (.int (ns.getD k 0)) S := by
  rw [run_1000]
  by_cases h : k < ns.length
  · have h2 : atI ns (k : Int) = some (ns[k]) := by rw [atI_get?, List.getElem?_eq_getElem h]
    simp [B_1000, h, h2]
  · simp [B_1000, h]
theorem digits_loop1 (n : Nat) (a0 a1 a2 : Sl) (kk : Sl) (b : Sl) : ∀ (xs : List D) (ds : List D) (c : Int), ds.length + xs.length ≤ 1000000 → (∀ d ∈ ds, ∃ i : Int, d = .int i) → 0 ≤ c →
    ∃ es c', forD (.nm 6) [6] (L_1001_1 (run n)) xs [a0, a1, a2, .own (.lst ds), kk, .val (.int c), .non, b] [] = .next [a0, a1, a2, .own (.lst es), kk, .val (.int c'), .non, b] [] ∧ es.length ≤ ds.length + xs.length ∧ (∀ d ∈ es, ∃ i : Int, d = .int i)
  | [], ds, c, h, hd, hc => ⟨ds, c, rfl, Nat.le_refl _, hd⟩
  | x :: xs, ds, c, h, hd, hc => by
    rw [List.length_cons] at h
    have hsz : ds.length < sizeLine := by rw [sizeLine_eq]; omega
    rw [forD]
    by_cases hp : 0 < c
    · obtain ⟨es, c', h1, h2, h3⟩ := digits_loop1 n a0 a1 a2 kk b xs (ds ++ [.int (c % 1000)]) (c / 1000) (by rw [List.length_append, List.length_singleton]; omega) (fun d hm => by
        rcases List.mem_append.mp hm with z | z
        · exact hd d z
        · rw [List.mem_singleton] at z; exact ⟨_, z⟩) (Int.ediv_nonneg hc (by decide))
      refine ⟨es, c', ?_, ?_, h3⟩
      · simp [e_L_1001_1, hp, hsz]
        exact h1
      · rw [List.length_append, List.length_singleton] at h2
        rw [List.length_cons]; omega
    · obtain ⟨es, c', h1, h2, h3⟩ := digits_loop1 n a0 a1 a2 kk b xs ds c (by omega) hd hc
      refine ⟨es, c', ?_, by rw [List.length_cons]; omega, h3⟩
      simp [e_L_1001_1, hp]
      exact h1
theorem digits_loop2 (n : Nat) (a0 a1 a2 : Sl) (kk : Sl) (b : Sl) : ∀ (m : Nat) (lo : Int) (ds : List D) (c : Int), ds.length + m ≤ 1000000 → (∀ d ∈ ds, ∃ i : Int, d = .int i) →
    ∃ es c', forD (.nm 6) [6] (L_1001_2 (run n)) ((List.range' 0 m).map fun (k : Nat) => D.int (lo + k)) [a0, a1, a2, .own (.lst ds), kk, b, .non, .val (.int c)] [] = .next [a0, a1, a2, .own (.lst es), kk, b, .non, .val (.int c')] [] ∧ es.length ≤ ds.length + m ∧ (∀ d ∈ es, ∃ i : Int, d = .int i)
  | 0, lo, ds, c, h, hd => ⟨ds, c, rfl, Nat.le_refl _, hd⟩
  | m + 1, lo, ds, c, h, hd => by
    have hsz : ds.length < sizeLine := by rw [sizeLine_eq]; omega
    obtain ⟨es, c', h1, h2, h3⟩ := digits_loop2 n a0 a1 a2 kk b m (lo + 1) (ds ++ [.int ((((c * 16807 + 7 * lo) + 1) % 2147483647) / 997 % 1000)]) (((c * 16807 + 7 * lo) + 1) % 2147483647) (by rw [List.length_append, List.length_singleton]; omega) (fun d hm => by
        rcases List.mem_append.mp hm with z | z
        · exact hd d z
        · rw [List.mem_singleton] at z; exact ⟨_, z⟩)
    have e : ((List.range' 0 (m + 1)).map fun (k : Nat) => D.int (lo + k)) = .int lo :: ((List.range' 0 m).map fun (k : Nat) => D.int (lo + 1 + k)) := by
      rw [List.range'_succ, List.map_cons]
      have z : List.range' (0 + 1) m = (List.range' 0 m).map (fun x => 1 + x) := by rw [List.map_add_range']
      rw [z, List.map_map]
      simp
      intro a _
      omega
    refine ⟨es, c', ?_, ?_, h3⟩
    · rw [e, forD]
      have k1 : dMul (.int c) (.int 16807) = some (.int (c * 16807)) := dMul_int (by decide)
      have k2 : dMul (.int 7) (.int lo) = some (.int (7 * lo)) := dMul_intl (by decide)
      simp [e_L_1001_2, hsz, k1, k2]
      exact h1
    · rw [List.length_append, List.length_singleton] at h2; omega
theorem rangeD_range' (lo : Int) (n : Nat) : rangeD lo n = (List.range' 0 n).map fun (k : Nat) => D.int (lo + k) := by
  unfold rangeD; rw [List.range_eq_range']
theorem digits_loop3 (n : Nat) (ns : List Int) (m : Nat) : ∀ (k0 : Nat) (ds : List D), ds.length + 60 * m ≤ 1000000 → k0 + m ≤ 63 → (∀ d ∈ ds, ∃ i : Int, d = .int i) →
    ∃ es, forD (.nm 4) [4, 5, 6, 7] (L_1001_3 (run (n + 1))) ((List.range' k0 m).map fun (k : Nat) => D.int k) [.val (.scr ns), .val (.int 0), .val (.int 63), .own (.lst ds), .non, .non, .non, .non] [] = .next [.val (.scr ns), .val (.int 0), .val (.int 63), .own (.lst es), .non, .non, .non, .non] [] ∧ es.length ≤ ds.length + 60 * m ∧ (∀ d ∈ es, ∃ i : Int, d = .int i) := by
  induction m with
  | zero => exact fun k0 ds h hk hd => ⟨ds, rfl, Nat.le_refl _, hd⟩
  | succ m ih =>
    intro k0 ds h hk hd
    rw [List.range'_succ, List.map_cons, forD]
    have hcell : run (n + 1) 1000 [.scr ns, .int (k0 : Int)] [] = .ok (.int (ns.getD k0 0)) [] := run_cell n ns k0 []
    generalize hc : ns.getD k0 0 = c0 at hcell
    -- the cell without its sign
    obtain ⟨c, hcv, hpos⟩ : ∃ c : Int, (if c0 < 0 then 1 - 2 * c0 else c0) = c ∧ 0 ≤ c := ⟨_, rfl, by split <;> omega⟩
    have k1 : dMul (.int 2) (.int c0) = some (.int (2 * c0)) := dMul_intl (by decide)
    have hr : ∀ (x : List D) (es : List D), (∀ d ∈ es, ∃ i : Int, d = .int i) → es.length ≤ ds.length + 60 → ∃ fs, forD (.nm 4) [4, 5, 6, 7] (L_1001_3 (run (n + 1))) ((List.range' (k0 + 1) m).map fun (k : Nat) => D.int k) [.val (.scr ns), .val (.int 0), .val (.int 63), .own (.lst es), .non, .non, .non, .non] [] = .next [.val (.scr ns), .val (.int 0), .val (.int 63), .own (.lst fs), .non, .non, .non, .non] [] ∧ fs.length ≤ ds.length + 60 * (m + 1) ∧ (∀ d ∈ fs, ∃ i : Int, d = .int i) := fun _ es h1 h2 => by
      obtain ⟨fs, e, l, q⟩ := ih (k0 + 1) es (by omega) (by omega) h1
      exact ⟨fs, e, by omega, q⟩
    by_cases hb' : P18 ≤ c
    · obtain ⟨es, c', h1, h2, h3⟩ := digits_loop1 (n + 1) (.val (.scr ns)) (.val (.int 0)) (.val (.int 63)) (.val (.int (k0 : Int))) .non (rangeD 0 60) ds c (by rw [rangeD_len]; omega) hd hpos
      rw [rangeD_len] at h2
      obtain ⟨fs, e, l, q⟩ := hr [] es h3 h2
      refine ⟨fs, ?_, l, q⟩
      have i60 : inR 60 = true := by decide
      by_cases hn : c0 < 0
      · rw [if_pos hn] at hcv
        subst hcv
        simp [e_L_1001_3, hcell, hn, k1, hb', i60, h1, e]
      · rw [if_neg hn] at hcv
        subst hcv
        simp [e_L_1001_3, hcell, hn, k1, hb', i60, h1, e]
    · obtain ⟨es, c', h1, h2, h3⟩ := digits_loop2 (n + 1) (.val (.scr ns)) (.val (.int 0)) (.val (.int 63)) (.val (.int (k0 : Int))) (.val (.int c)) 12 0 ds ((c * 48271 + (k0 : Int) * 69621 + 11) % 2147483647) (by omega) hd
      rw [← rangeD_range'] at h1
      obtain ⟨fs, e, l, q⟩ := hr [] es h3 (by omega)
      refine ⟨fs, ?_, l, q⟩
      have i12 : inR 12 = true := by decide
      have k2 : dMul (.int c) (.int 48271) = some (.int (c * 48271)) := dMul_int (by decide)
      have k3 : dMul (.int (k0 : Int)) (.int 69621) = some (.int ((k0 : Int) * 69621)) := dMul_int (by decide)
      by_cases hn : c0 < 0
      · rw [if_pos hn] at hcv
        subst hcv
        simp [e_L_1001_3, hcell, hn, k1, hb', i12, k2, k3, h1, e]
      · rw [if_neg hn] at hcv
        subst hcv
        simp [e_L_1001_3, hcell, hn, k1, hb', i12, k2, k3, h1, e]
/-- the digits: some ints -/
theorem run_digits (n : Nat) (ns : List Int) : ∃ ds : List Int, run (n + 2) 1001 [.scr ns, .int 0, .int 63] [] = .ok (.lst (ds.map .int)) [] ∧ ds.length ≤ 3780 := by
  obtain ⟨es, h1, h2, h3⟩ := digits_loop3 n ns 63 0 [] (by decide) (by decide) (fun d h => by cases h)
  have e : ∀ es : List D, (∀ d ∈ es, ∃ i : Int, d = .int i) → ∃ ds : List Int, es = ds.map .int := by
    intro es
    induction es with
    | nil => exact fun _ => ⟨[], rfl⟩
    | cons x xs ih =>
      intro h
      obtain ⟨i, rfl⟩ := h x List.mem_cons_self
      obtain ⟨ds, rfl⟩ := ih fun d hd => h d (List.mem_cons_of_mem _ hd)
      exact ⟨i :: ds, rfl⟩
  obtain ⟨ds, rfl⟩ := e es h3
  refine ⟨ds, ?_, by simpa using h2⟩
  rw [run_1001]
  have i0 : inR 0 = true := by decide
  have i63 : inR 63 = true := by decide
  have hr : rangeD 0 63 = (List.range' 0 63).map fun (k : Nat) => D.int k := by unfold rangeD; rw [List.range_eq_range']; simp
  simp [B_1001, i0, i63, hr] at h1 ⊢
  simp [h1]
/-! ### the box -/
def box (ds : List Int) (k : Nat) : D := .lst [.lst (ds.map .int), .int k]
def Bx (S : List D) : Prop := ∃ ds k r, S = box ds k :: r
theorem run_draw (n : Nat) (m : Int) (hm : 0 < m) (S : List D) (hS : Bx S) : ∃ (r : Int) (S' : List D), run (n + 1) 1002 [.ptr 0, .int m] S = .ok (.int r) S' ∧ Bx S' ∧ 0 ≤ r ∧ r < m := by
  obtain ⟨ds, k, rr, rfl⟩ := hS
  rw [run_1002]
  have a1 : ∀ (x y : D), atI [x, y] 1 = some y := fun x y => rfl
  have a0 : ∀ (x y : D), atI [x, y] 0 = some x := fun x y => rfl
  have x2 : ixN 2 1 = some 1 := rfl
  have hk : (k : Int) + 1 = ((k + 1 : Nat) : Int) := by omega
  by_cases h : k < ds.length
  · have g : atI (ds.map D.int) (k : Int) = some (.int ds[k]) := by rw [atI_get?, List.getElem?_map, List.getElem?_eq_getElem h]; rfl
    refine ⟨ds[k] % m, box ds (k + 1) :: rr, ?_, ⟨ds, k + 1, rr, rfl⟩, Int.emod_nonneg _ (by omega), Int.emod_lt_of_pos _ hm⟩
    simp [B_1002, box, a1, a0, x2, h, g, hm]
  · refine ⟨0, box ds (k + 1) :: rr, ?_, ⟨ds, k + 1, rr, rfl⟩, Int.le_refl _, hm⟩
    simp [B_1002, box, a1, a0, x2, h]
theorem Bx.mk (ds : List Int) : Bx [.lst [.lst (ds.map .int), .int 0]] := ⟨ds, 0, [], rfl⟩
theorem Bx.app {S R : List D} (h : Bx S) : Bx (S ++ R) := by
  obtain ⟨ds, k, r, rfl⟩ := h
  exact ⟨ds, k, r ++ R, rfl⟩

end
section
open PySem L2 DL
/-! ### unions, ranges, relations -/
theorem run_union (n : Nat) {a b : List Bool × List Bool} (ha : SOk a) (hb : SOk b) (S : List D) : run (n + 4) 30 [eSt a, eSt b] S = .ok (eSt (put 1 a b)) S := by
  show run (n + 3 + 1) 30 [eSt a, eSt b] S = _
  rw [run_30]
  have p := run_put n (k := 1) (.inl rfl) ha hb S
  have el : ∀ Γ S, eLam 1 (lamT 1) Γ S = .ok (.fn 1 (lamT 1)) S := fun _ _ => rfl
  simp [B_30, el, p]
theorem run_common (n : Nat) {a b : List Bool × List Bool} (ha : SOk a) (hb : SOk b) (S : List D) : run (n + 4) 31 [eSt a, eSt b] S = .ok (eSt (put 2 a b)) S := by
  show run (n + 3 + 1) 31 [eSt a, eSt b] S = _
  rw [run_31]
  have p := run_put n (k := 2) (.inr (.inl rfl)) ha hb S
  have el : ∀ Γ S, eLam 2 (lamT 2) Γ S = .ok (.fn 2 (lamT 2)) S := fun _ _ => rfl
  simp [B_31, el, p]
theorem run_diff (n : Nat) {a b : List Bool × List Bool} (ha : SOk a) (hb : SOk b) (S : List D) : run (n + 4) 32 [eSt a, eSt b] S = .ok (eSt (put 3 a b)) S := by
  show run (n + 3 + 1) 32 [eSt a, eSt b] S = _
  rw [run_32]
  have p := run_put n (k := 3) (.inr (.inr rfl)) ha hb S
  have el : ∀ Γ S, eLam 3 (lamT 3) Γ S = .ok (.fn 3 (lamT 3)) S := fun _ _ => rfl
  simp [B_32, el, p]
def ALs : List Bool × List Bool := ([], [true])
def NOs : List Bool × List Bool := ([], [false])
theorem al_ok : SOk ALs := ⟨List.cons_ne_nil _ _, ⟨60, rfl⟩, Nat.zero_le _⟩
theorem no_ok : SOk NOs := ⟨List.cons_ne_nil _ _, ⟨60, rfl⟩, Nat.zero_le _⟩
theorem al_mem (k : Nat) : mem ALs k = true := by
  unfold mem atq ALs
  simp [Nat.mod_one]
theorem no_mem (k : Nat) : mem NOs k = false := by
  unfold mem atq NOs
  simp [Nat.mod_one]
theorem run_compl (n : Nat) {a : List Bool × List Bool} (ha : SOk a) (S : List D) : run (n + 5) 33 [eSt a] S = .ok (eSt (put 3 ALs a)) S := by
  show run (n + 4 + 1) 33 [eSt a] S = _
  rw [run_33]
  have p := run_diff n al_ok ha S
  replace p : run (n + 4) 32 [.tup [.tup [], .tup [.bl true]], eSt a] S = _ := p
  simp [B_33, p]
def rangeS (lo hi : Nat) : List Bool × List Bool := sett (List.replicate lo false ++ List.replicate (hi + 1 - lo) true) [false]
theorem range_ok {lo hi : Nat} (h : lo ≤ hi) (h2 : hi < 18) : SOk (rangeS lo hi) := sett_ok (List.cons_ne_nil _ _) ⟨60, rfl⟩ (by rw [List.length_append, List.length_replicate, List.length_replicate]; omega)
theorem range_mem {lo hi : Nat} (h : lo ≤ hi) (k : Nat) : mem (rangeS lo hi) k = (decide (lo ≤ k) && decide (k ≤ hi)) := by
  unfold rangeS
  rw [sett_mem (List.cons_ne_nil _ _)]
  unfold atq
  rw [List.length_append, List.length_replicate, List.length_replicate]
  by_cases h1 : k < lo + (hi + 1 - lo)
  · rw [if_pos h1, decide_eq_true (show k ≤ hi by omega), Bool.and_true, List.getD_eq_getElem?_getD]
    by_cases h3 : lo ≤ k
    · rw [List.getElem?_append_right (by rw [List.length_replicate]; exact h3), List.length_replicate, List.getElem?_replicate, if_pos (by omega), decide_eq_true h3]; rfl
    · rw [List.getElem?_append_left (by rw [List.length_replicate]; omega), List.getElem?_replicate, if_pos (by omega), decide_eq_false h3]; rfl
  · rw [if_neg h1, decide_eq_false (show ¬ k ≤ hi by omega), Bool.and_false]
    show [false].getD ((k - _) % 1) false = false
    rw [Nat.mod_one]; rfl
theorem rep_bl (b : Bool) (m : Nat) : (List.replicate m [D.bl b]).flatten = bsD (List.replicate m b) := by
  induction m with
  | zero => rfl
  | succ m ih => rw [List.replicate_succ, List.flatten_cons, ih, List.replicate_succ]; rfl
theorem dMulT_b (b : Bool) {k : Int} (h0 : 0 ≤ k) (h1 : k ≤ 1000) : dMulT (.tup [.bl b]) (.int k) = some (.tup (bsD (List.replicate k.toNat b))) := by
  rw [← rep_bl]
  exact if_pos ⟨List.cons_ne_nil _ _, by omega, h1, by show 1 ≤ 1000; decide⟩
theorem run_range (n : Nat) {lo hi : Int} (h0 : 0 ≤ lo) (h : lo ≤ hi) (h2 : hi < 18) (S : List D) : run (n + 3) 39 [.int lo, .int hi] S = .ok (eSt (rangeS lo.toNat hi.toNat)) S := by
  show run (n + 2 + 1) 39 [.int lo, .int hi] S = _
  rw [run_39]
  have m1 := dMulT_b false h0 (by omega)
  have m2 := dMulT_b true (k := hi - lo + 1) (by omega) (by omega)
  have e1 : (hi - lo + 1).toNat = hi.toNat + 1 - lo.toNat := by omega
  rw [e1] at m2
  have ad : dAdd (.tup (bsD (List.replicate lo.toNat false))) (.tup (bsD (List.replicate (hi.toNat + 1 - lo.toNat) true))) = some (.tup (bsD (List.replicate lo.toNat false ++ List.replicate (hi.toNat + 1 - lo.toNat) true))) := by
    rw [bsD_app]
    exact dAdd_tup (by rw [bsD_len, bsD_len, List.length_replicate, List.length_replicate]; omega)
  have st := run_settled n false false (List.replicate lo.toNat false ++ List.replicate (hi.toNat + 1 - lo.toNat) true) [false] (List.cons_ne_nil _ _) (by rw [List.length_append, List.length_replicate, List.length_replicate]; omega) (by decide) S
  replace st : run (n + 2) 26 [.tup (bsD (List.replicate lo.toNat false ++ List.replicate (hi.toNat + 1 - lo.toNat) true)), .tup [.bl false]] S = .ok (eSt (rangeS lo.toNat hi.toNat)) S := st
  generalize eSt (rangeS lo.toNat hi.toNat) = R0 at *
  generalize bsD (List.replicate lo.toNat false ++ List.replicate (hi.toNat + 1 - lo.toNat) true) = t0 at *
  generalize bsD (List.replicate lo.toNat false) = t1 at *
  generalize bsD (List.replicate (hi.toNat + 1 - lo.toNat) true) = t2 at *
  simp [B_39, m1, m2, ad, st]
/-! ### one number, moved sets, emptiness -/
def singleS (k : Nat) : List Bool × List Bool := sett (List.replicate k false ++ [true]) [false]
theorem single_ok {k : Nat} (h : k ≤ 15) : SOk (singleS k) := sett_ok (List.cons_ne_nil _ _) ⟨60, rfl⟩ (by rw [List.length_append, List.length_replicate, List.length_singleton]; omega)
theorem single_mem (k i : Nat) : mem (singleS k) i = decide (i = k) := by
  unfold singleS
  rw [sett_mem (List.cons_ne_nil _ _)]
  unfold atq
  rw [List.length_append, List.length_replicate, List.length_singleton]
  by_cases h1 : i < k + 1
  · rw [if_pos h1, List.getD_eq_getElem?_getD]
    by_cases h2 : i < k
    · rw [List.getElem?_append_left (by rw [List.length_replicate]; exact h2), List.getElem?_replicate, if_pos h2, decide_eq_false (by omega)]; rfl
    · have e : i = k := by omega
      rw [List.getElem?_append_right (by rw [List.length_replicate]; omega), List.length_replicate, decide_eq_true e, e, Nat.sub_self]; rfl
  · rw [if_neg h1, decide_eq_false (by omega)]
    show [false].getD ((i - _) % 1) false = false
    rw [Nat.mod_one]; rfl
theorem run_single (n : Nat) {k : Nat} (h : k ≤ 15) (S : List D) : run (n + 3) 37 [.int k] S = .ok (eSt (singleS k)) S := by
  show run (n + 2 + 1) 37 [.int k] S = _
  rw [run_37]
  have m1 := dMulT_b false (k := (k : Int)) (by omega) (by omega)
  rw [Int.toNat_natCast] at m1
  have ad : dAdd (.tup (bsD (List.replicate k false))) (.tup [.bl true]) = some (.tup (bsD (List.replicate k false ++ [true]))) := by
    rw [bsD_app]
    exact dAdd_tup (by rw [bsD_len, List.length_replicate]; show k + 1 ≤ _; omega)
  have st := run_settled n false false (List.replicate k false ++ [true]) [false] (List.cons_ne_nil _ _) (by rw [List.length_append, List.length_replicate, List.length_singleton]; omega) (by decide) S
  replace st : run (n + 2) 26 [.tup (bsD (List.replicate k false ++ [true])), .tup [.bl false]] S = .ok (eSt (singleS k)) S := st
  generalize eSt (singleS k) = R0 at *
  generalize bsD (List.replicate k false ++ [true]) = t0 at *
  generalize bsD (List.replicate k false) = t1 at *
  simp [B_37, m1, ad, st]
def movedS (s : List Bool × List Bool) (off : Nat) : List Bool × List Bool := sett (List.replicate off false ++ s.1) s.2
theorem moved_ok {s : List Bool × List Bool} {off : Nat} (h : SOk s) (hl : s.1.length + off ≤ 20) : SOk (movedS s off) := sett_ok h.ne h.dv (by rw [List.length_append, List.length_replicate]; omega)
theorem moved_mem {s : List Bool × List Bool} (h : SOk s) (off i : Nat) : mem (movedS s off) i = (decide (off ≤ i) && mem s (i - off)) := by
  unfold movedS
  rw [sett_mem h.ne]
  unfold mem atq
  rw [List.length_append, List.length_replicate]
  by_cases h1 : off ≤ i
  · rw [decide_eq_true h1, Bool.true_and]
    by_cases h2 : i < off + s.1.length
    · rw [if_pos h2, if_pos (by omega), List.getD_eq_getElem?_getD, List.getElem?_append_right (by rw [List.length_replicate]; exact h1), List.length_replicate, List.getD_eq_getElem?_getD]
    · rw [if_neg h2, if_neg (by omega)]
      congr 2
      omega
  · rw [decide_eq_false h1, Bool.false_and, if_pos (by omega), List.getD_eq_getElem?_getD, List.getElem?_append_left (by rw [List.length_replicate]; omega), List.getElem?_replicate, if_pos (by omega)]; rfl
theorem run_moved (n : Nat) {s : List Bool × List Bool} (hs : SOk s) {off : Nat} (h : off ≤ 15) (S : List D) : run (n + 3) 38 [eSt s, .int off] S = .ok (eSt (movedS s off)) S := by
  show run (n + 2 + 1) 38 [eSt s, .int off] S = _
  rw [run_38]
  have m1 := dMulT_b false (k := (off : Int)) (by omega) (by omega)
  rw [Int.toNat_natCast] at m1
  have hd := hs.hd
  have hc := hs.c3
  have ad : dAdd (.tup (bsD (List.replicate off false))) (.tup (bsD s.1)) = some (.tup (bsD (List.replicate off false ++ s.1))) := by
    rw [bsD_app]
    exact dAdd_tup (by rw [bsD_len, bsD_len, List.length_replicate]; omega)
  have st := run_settled n false false (List.replicate off false ++ s.1) s.2 hs.ne (by rw [List.length_append, List.length_replicate]; omega) (by omega) S
  replace st : run (n + 2) 26 [.tup (bsD (List.replicate off false ++ s.1)), .tup (bsD s.2)] S = .ok (eSt (movedS s off)) S := st
  have i0 : ∀ x y : D, atI [x, y] 0 = some x := fun _ _ => rfl
  have i1 : ∀ x y : D, atI [x, y] 1 = some y := fun _ _ => rfl
  generalize eSt (movedS s off) = R0 at *
  unfold eSt pr
  generalize bsD (List.replicate off false ++ s.1) = t0 at *
  generalize bsD (List.replicate off false) = t1 at *
  generalize bsD s.1 = t2 at *
  generalize bsD s.2 = t3 at *
  simp [B_38, i0, i1, m1, ad, st]
/-- a settled set without numbers -/
def emS (s : List Bool × List Bool) : Bool := decide (s.1 = [] ∧ s.2 = [false])
theorem em_iff {h c : List Bool} (hc : c ≠ []) : emS (sett h c) = true ↔ ∀ k, mem (sett h c) k = false := by
  unfold emS
  rw [decide_eq_true_iff]
  constructor
  · rintro ⟨e1, e2⟩ k
    unfold mem
    rw [e1, e2]
    unfold atq
    simp [Nat.mod_one]
  · intro hk
    have x := (sett_stl (h := h) hc).1
    have e : atq h c = fun _ => false := by
      funext k
      rw [← sett_mem hc k]; exact hk k
    have y : Stl (atq h c) [] [false] := by
      rw [e]
      exact ⟨List.cons_ne_nil _ _, fun k => by unfold atq; simp [Nat.mod_one], ⟨Nat.one_pos, 0, fun _ _ => rfl⟩, fun d hd => hd.1, .inl rfl⟩
    exact x.unique y
theorem run_empty (n : Nat) (s : List Bool × List Bool) (S : List D) : run (n + 1) 34 [eSt s] S = .ok (.bl (emS s)) S := by
  rw [run_34]
  have e : cEq (eSt s) (.tup [.tup [], .tup [.bl false]]) = some (.bl (emS s)) := by
    have := dEq_pr s.1 s.2 [] [false]
    show (dEq (pr s.1 s.2) (pr [] [false])).map D.bl = _
    rw [this]; rfl
  have de : deref S (eSt s) = eSt s := rfl
  simp [B_34, de, e]
/-- a number of a set stands in its head or first cycle -/
theorem mem_small {s : List Bool × List Bool} (hs : SOk s) (h : ∃ k, mem s k = true) : ∃ k, k < 80 ∧ mem s k = true := by
  obtain ⟨k, hk⟩ := h
  by_cases hl : k < 80
  · exact ⟨k, hl, hk⟩
  · have hd := hs.hd
    have hc := hs.c3
    have c0 := hs.c0
    refine ⟨s.1.length + (k - s.1.length) % s.2.length, by have := Nat.mod_lt (k - s.1.length) c0; omega, ?_⟩
    rw [← hk]
    unfold mem atq
    rw [if_neg (by omega), if_neg (by omega), Nat.add_sub_cancel_left, Nat.mod_mod]
/-- a row of drawn truth values -/
theorem run_row (n : Nat) (m : Int) (hm : 0 < m) (hm2 : m ≤ 100) (S : List D) (hS : Bx S) : ∃ (bs : List Bool) (S' : List D), run (n + 2) 1003 [.ptr 0, .int m] S = .ok (.tup (bsD bs)) S' ∧ Bx S' ∧ (bs.length : Int) < m := by
  rw [run_1003]
  obtain ⟨r, S1, h1, hS1, r0, rm⟩ := run_draw n m hm S hS
  have hin : inR r = true := inR_of (by omega)
  obtain ⟨ds, S2, h2, hS2, hl, hp⟩ := compD_map (p := .nm 2) (ε := C_1003_1 (run (n + 1))) (Γ := [.val (.ptr 0), .val (.int m), .non]) (I := Bx) (P := fun _ _ d => ∃ b, d = .bl b) (rangeD 0 r.toNat) 0 S1 hS1 fun j x S hx hS => by
    obtain ⟨r2, S3, h3, hS3, _, _⟩ := run_draw n 2 (by decide) S hS
    exact ⟨_, .bl (r2 == 0), S3, x_bnm, by simp [e_C_1003_1, h3], hS3, _, rfl⟩
  have : ∃ bs : List Bool, ds = bsD bs := by
    have all : ∀ d ∈ ds, ∃ b, d = D.bl b := fun d hd => by
      obtain ⟨j, hj⟩ := List.mem_iff_getElem?.mp hd
      have hlt : j < (rangeD 0 r.toNat).length := by rw [← hl]; exact (List.getElem?_eq_some_iff.mp hj).1
      exact hp j _ d (List.getElem?_eq_getElem hlt) hj
    clear h2 hl hp
    induction ds with
    | nil => exact ⟨[], rfl⟩
    | cons d ds ih =>
      obtain ⟨b, rfl⟩ := all d List.mem_cons_self
      obtain ⟨bs, rfl⟩ := ih fun d hd => all d (List.mem_cons_of_mem _ hd)
      exact ⟨b :: bs, rfl⟩
  obtain ⟨bs, rfl⟩ := this
  rw [rangeD_len, bsD, List.length_map] at hl
  have hlk : lenOk (bsD bs) = some (.lst (bsD bs)) := lenOk_of (by rw [bsD, List.length_map]; omega)
  refine ⟨bs, S2, ?_, hS2, by omega⟩
  simp [B_1003, h1, hin, h2, hlk]
theorem run_far (n : Nat) (S : List D) (hS : Bx S) : ∃ (k : Nat) (S' : List D), run (n + 2) 1005 [.ptr 0] S = .ok (.int k) S' ∧ Bx S' := by
  rw [run_1005]
  obtain ⟨a, S1, h1, hS1, a0, _⟩ := run_draw n 40 (by decide) S hS
  obtain ⟨b, S2, h2, hS2, b0, _⟩ := run_draw n 1000 (by decide) S1 hS1
  obtain ⟨c, S3, h3, hS3, c0, _⟩ := run_draw n 1000 (by decide) S2 hS2
  obtain ⟨d, S4, h4, hS4, d0, _⟩ := run_draw n 1000 (by decide) S3 hS3
  obtain ⟨e, S5, h5, hS5, e0, e3⟩ := run_draw n 3 (by decide) S4 hS4
  have k1 : dMul (.int c) (.int 1000000007) = some (.int (c * 1000000007)) := dMul_int (by decide)
  obtain ⟨k, hk⟩ : ∃ k : Nat, atI [D.int a, .int b, .int (c * 1000000007 + d)] e = some (.int k) := by
    rcases (by omega : e = 0 ∨ e = 1 ∨ e = 2) with rfl | rfl | rfl
    · exact ⟨a.toNat, by rw [Int.toNat_of_nonneg a0]; rfl⟩
    · exact ⟨b.toNat, by rw [Int.toNat_of_nonneg b0]; rfl⟩
    · exact ⟨(c * 1000000007 + d).toNat, by rw [Int.toNat_of_nonneg (by omega)]; rfl⟩
  exact ⟨k, S5, by simp [B_1005, h1, h2, h3, h4, h5, k1, hk], hS5⟩
/-- searching -/
theorem dEq_refl {d : D} (h : okD d = true) (k : dep d ≤ 64) : dEq d d = some true := by
  rw [dEq_peq h h k k]
  unfold peq
  obtain ⟨p, e, c, _⟩ := okD_py d h
  rw [e]
  exact congrArg some (SeqAt.eqv_refl p c)

end
section
open PySem L2 DL
/-! ### least, comparisons -/
section
abbrev St2 := List Bool × List Bool
def rowOf (s : St2) : List Bool := s.1 ++ s.2
def leastN (s : St2) : Option Nat := fstB true (rowOf s)
def oD : Option Nat → D
  | none => .non
  | some k => .int (k : Int)
theorem asBs_bs (bs : List Bool) : asBs (bsD bs) = some bs := by
  induction bs with
  | nil => rfl
  | cons b l ih =>
    show (asBs (bsD l)).map (b :: ·) = _
    rw [ih]; rfl
theorem notin_true (bs : List Bool) : cNotIn (.bl true) (.tup (bsD bs)) = some (.bl (!bs.any id)) := by
  have e : inF (.bl true) (bsD bs) = bs.any id := by
    unfold inF bsD
    rw [List.any_map]
    congr 1
    funext b
    cases b <;> rfl
  have f : (bsD bs).all flatD = true := by
    unfold bsD
    rw [List.all_map, List.all_eq_true]
    intro c _; rfl
  have d : dIn (.bl true) (.tup (bsD bs)) = some (inF (.bl true) (bsD bs)) := by
    have : dIn (.bl true) (.tup (bsD bs)) = if flatD (.bl true) = true ∧ (bsD bs).all flatD = true then some (inF (.bl true) (bsD bs)) else none := rfl
    rw [this, if_pos ⟨rfl, f⟩]
  unfold cNotIn
  rw [d, e]; rfl
theorem fstB_any : ∀ bs : List Bool, (fstB true bs = none ∧ bs.any id = false) ∨ (∃ j, fstB true bs = some j) ∧ bs.any id = true
  | [] => .inl ⟨rfl, rfl⟩
  | true :: l => .inr ⟨⟨0, rfl⟩, rfl⟩
  | false :: l => by
    have e : fstB true (false :: l) = (fstB true l).map (· + 1) := rfl
    rcases fstB_any l with ⟨a, b⟩ | ⟨⟨j, a⟩, b⟩
    · exact .inl ⟨by rw [e, a]; rfl, by rw [List.any_cons, b]; rfl⟩
    · exact .inr ⟨⟨j + 1, by rw [e, a]; rfl⟩, by rw [List.any_cons, b]; rfl⟩
theorem run_least (n : Nat) {s : St2} (hs : SOk s) (S : List D) : run (n + 1) 36 [eSt s] S = .ok (oD (leastN s)) S := by
  rw [run_36]
  have hd := hs.hd
  have hc := hs.c3
  have i0 : dIdx (eSt s) (.int 0) = some (.tup (bsD s.1)) := rfl
  have i1 : dIdx (eSt s) (.int 1) = some (.tup (bsD s.2)) := rfl
  have de : deref S (eSt s) = eSt s := rfl
  have ad : dAdd (.tup (bsD s.1)) (.tup (bsD s.2)) = some (.tup (bsD (rowOf s))) := by
    unfold rowOf
    rw [bsD_app]
    exact dAdd_tup (by rw [bsD_len, bsD_len]; omega)
  have nt := notin_true (rowOf s)
  have ab := asBs_bs (rowOf s)
  unfold leastN
  rcases fstB_any (rowOf s) with ⟨a, b⟩ | ⟨⟨j, a⟩, b⟩
  · rw [b] at nt
    rw [a]
    generalize bsD (rowOf s) = rr at *
    generalize eSt s = es at *
    simp [B_36, de, i0, i1, ad, nt, oD]
  · rw [b] at nt
    rw [a]
    generalize bsD (rowOf s) = rr at *
    generalize eSt s = es at *
    simp [B_36, de, i0, i1, ad, nt, oD, ab, a]
theorem cNe_bl (a b : Bool) : cNe (.bl a) (.bl b) = some (.bl (!(a == b))) := by unfold cNe; rw [dEq_bl]; rfl
theorem cNe_st (s : St2) : cNe (eSt s) (eSt s) = some (.bl false) := by
  unfold cNe
  have := dEq_pr s.1 s.2 s.1 s.2
  rw [show dEq (eSt s) (eSt s) = some (decide (s.1 = s.1 ∧ s.2 = s.2)) from this, decide_eq_true ⟨rfl, rfl⟩]; rfl
theorem cNe_oD (a : Option Nat) : cNe (oD a) (oD a) = some (.bl false) := by
  unfold cNe
  rw [dEq_refl (by cases a <;> rfl) (by cases a <;> simp [oD, dep])]
  rfl
theorem okDs_bs : ∀ bs : List Bool, okDs (bsD bs) = true
  | [] => by rw [show bsD [] = [] from rfl, okDs]
  | b :: l => by rw [show bsD (b :: l) = .bl b :: bsD l from rfl, okDs, okDs_bs l, okD]; rfl
theorem cNe_bsl (bs : List Bool) : cNe (.lst (bsD bs)) (.lst (bsD bs)) = some (.bl false) := by
  unfold cNe
  rw [dEq_refl (by rw [okD]; exact okDs_bs bs) (by rw [dep, deps_bs]; decide)]
  rfl
end
/-! ### the first number, within: plain -/
section
theorem row_mem (s : St2) (h0 : s.2 ≠ []) {k : Nat} (hk : k < (rowOf s).length) : (rowOf s)[k]? = some (mem s k) := by
  unfold rowOf at hk ⊢
  rw [List.length_append] at hk
  unfold mem atq
  by_cases h : k < s.1.length
  · rw [if_pos h, List.getElem?_append_left h, List.getD_eq_getElem?_getD, List.getElem?_eq_getElem h]; rfl
  · have hm : (k - s.1.length) % s.2.length = k - s.1.length := Nat.mod_eq_of_lt (by omega)
    rw [if_neg h, List.getElem?_append_right (by omega), hm, List.getD_eq_getElem?_getD, List.getElem?_eq_getElem (by omega)]; rfl
def firstF (s : St2) : List Nat → Option Nat → Option Nat
  | [], a => a
  | i :: l, a => firstF s l (if (mem s i && a.isNone) = true then some i else a)
def withF (a b : St2) : List Nat → Bool → Bool
  | [], w => w
  | i :: l, w => withF a b l (if (mem a i && !mem b i) = true then false else w)
theorem firstF_some (s : St2) (j : Nat) : ∀ l, firstF s l (some j) = some j
  | [] => rfl
  | i :: l => by
    have e : (mem s i && (some j).isNone) = false := by cases mem s i <;> rfl
    unfold firstF
    rw [if_neg (by rw [e]; exact Bool.false_ne_true)]
    exact firstF_some s j l
theorem firstF_none (s : St2) : ∀ l : List Nat, (∀ i ∈ l, mem s i = false) → firstF s l none = none
  | [], _ => rfl
  | i :: l, h => by
    have e : (mem s i && (none : Option Nat).isNone) = false := by rw [h i (List.mem_cons_self ..)]; rfl
    unfold firstF
    rw [if_neg (by rw [e]; exact Bool.false_ne_true)]
    exact firstF_none s l fun z hz => h z (List.mem_cons_of_mem _ hz)
theorem firstF_app (s : St2) : ∀ (l m : List Nat) (a : Option Nat), firstF s (l ++ m) a = firstF s m (firstF s l a)
  | [], _, _ => rfl
  | i :: l, m, a => firstF_app s l m _
theorem least_first {s : St2} (hs : SOk s) (ks : List Nat) : firstF s (List.range 80 ++ ks) none = leastN s := by
  have hd := hs.hd
  have hc := hs.c3
  have hl : (rowOf s).length ≤ 80 := by unfold rowOf; rw [List.length_append]; omega
  unfold leastN
  cases hq : fstB true (rowOf s) with
  | none =>
    rcases fstB_any (rowOf s) with ⟨_, b⟩ | ⟨⟨j, a⟩, _⟩
    · have no : ∀ k, mem s k = false := fun k => by
        cases z : mem s k with
        | false => rfl
        | true =>
          have h1 : mem s (s.1.length + (k - s.1.length) % s.2.length) = true ∨ k < s.1.length := by
            by_cases hk : k < s.1.length
            · exact .inr hk
            · left
              rw [← z]
              unfold mem atq
              rw [if_neg (by omega), if_neg hk, Nat.add_sub_cancel_left, Nat.mod_mod]
          have key : ∀ i, i < (rowOf s).length → mem s i = true → False := fun i hi hm => by
            have e := row_mem s hs.ne hi
            rw [hm] at e
            have : (rowOf s).any id = true := List.any_eq_true.mpr ⟨true, List.mem_of_getElem? e, rfl⟩
            rw [this] at b; cases b
          have l2 : (rowOf s).length = s.1.length + s.2.length := by unfold rowOf; rw [List.length_append]
          have c0 := hs.c0
          rcases h1 with h1 | h1
          · exact (key _ (by have := Nat.mod_lt (k - s.1.length) c0; omega) h1).elim
          · exact (key k (by omega) z).elim
      exact firstF_none s _ fun i _ => no i
    · rw [a] at hq; cases hq
  | some j =>
    obtain ⟨h1, h2⟩ := fstB_ok true (rowOf s) j hq
    have hj : j < (rowOf s).length := (List.getElem?_eq_some_iff.mp h1).1
    have mj : mem s j = true := by
      have := row_mem s hs.ne hj
      rw [h1] at this
      exact (Option.some.inj this).symm
    have ml : ∀ i ∈ List.range j, mem s i = false := fun i hi => by
      have hi := List.mem_range.mp hi
      have e := row_mem s hs.ne (k := i) (by omega)
      cases z : mem s i with
      | false => rfl
      | true => rw [z] at e; exact absurd e (h2 i hi)
    obtain ⟨m, hm⟩ : ∃ m, 80 = j + (m + 1) := ⟨79 - j, by omega⟩
    have e80 : List.range 80 = List.range j ++ (j :: (List.range m).map fun i => j + (i + 1)) := by
      rw [hm, List.range_add, List.range_succ_eq_map, List.map_cons, List.map_map]; rfl
    rw [e80, List.append_assoc, firstF_app, firstF_none s _ ml, List.cons_append]
    unfold firstF
    rw [if_pos (by rw [mj]; rfl)]
    exact firstF_some s j _
theorem withF_all (a b : St2) : ∀ (l : List Nat) (w : Bool), withF a b l w = (w && l.all fun i => !(mem a i && !mem b i))
  | [], w => by rw [withF, List.all_nil, Bool.and_true]
  | i :: l, w => by
    rw [withF, withF_all a b l, List.all_cons]
    cases mem a i <;> cases mem b i <;> simp
theorem with_em {a b : St2} (ha : SOk a) (hb : SOk b) (ks : List Nat) : withF a b (List.range 80 ++ ks) true = emS (put 3 a b) := by
  have pm : ∀ i, mem (put 3 a b) i = (mem a i && !mem b i) := fun i => put_mem 3 ha hb i
  have ei : emS (put 3 a b) = true ↔ ∀ k, mem (put 3 a b) k = false := em_iff (putD_ne 3 ha hb)
  rw [withF_all, Bool.true_and, Bool.eq_iff_iff, ei, List.all_eq_true]
  constructor
  · intro h k
    cases z : mem (put 3 a b) k with
    | false => rfl
    | true =>
      obtain ⟨i, i1, i2⟩ := mem_small (put_ok 3 ha hb) ⟨k, z⟩
      have := h i (List.mem_append_left _ (List.mem_range.mpr i1))
      rw [pm] at i2
      rw [i2] at this; cases this
  · intro h i _
    rw [← pm, h]; rfl
theorem em_least {h c : List Bool} (hc : c ≠ []) (hs : SOk (sett h c)) : emS (sett h c) = (leastN (sett h c)).isNone := by
  rw [Bool.eq_iff_iff, em_iff hc, ← least_first hs []]
  constructor
  · intro z
    rw [firstF_none _ _ fun i _ => z i]; rfl
  · intro z k
    cases q : mem (sett h c) k with
    | false => rfl
    | true =>
      exfalso
      obtain ⟨i, i1, i2⟩ := mem_small hs ⟨k, q⟩
      have : ∀ (l : List Nat), i ∈ l → (firstF (sett h c) l none).isNone = false := fun l => by
        induction l with
        | nil => intro h; cases h
        | cons x l ih =>
          intro hm
          rw [firstF]
          cases w : mem (sett h c) x with
          | true =>
            rw [if_pos (by rfl), firstF_some]; rfl
          | false =>
            rw [if_neg (by simp)]
            rcases List.mem_cons.mp hm with e | e
            · rw [← e, i2] at w; cases w
            · exact ih e
      rw [this _ (List.mem_append_left _ (List.mem_range.mpr i1))] at z
      cases z
theorem sett_idem {h c : List Bool} (hc : c ≠ []) : sett (sett h c).1 (sett h c).2 = sett h c := by
  have x := (sett_stl (h := h) hc).1
  have y := (sett_stl (h := (sett h c).1) (c := (sett h c).2) x.pos).1
  have e : atq (sett h c).1 (sett h c).2 = atq h c := funext fun k => x.eq k
  rw [e] at y
  obtain ⟨h1, h2⟩ := y.unique x
  exact Prod.ext h1 h2
end

end
section
open PySem L2 DL
/-! ### the law's loops -/
section
theorem comp_mem (n i : Nat) (a0 a1 a2 a3 a4 a5 a6 a8 a9 a11 a12 a13 a14 : Sl) (S : List D) : ∀ ss : List St2, (∀ s ∈ ss, s.2 ≠ []) →
    compD (.nm 10) tTrue (C_1006_3 (run (n + 1))) (ss.map eSt) [a0, a1, a2, a3, a4, a5, a6, .val (.int i), a8, a9, .non, a11, a12, a13, a14] S = .ok (bsD (ss.map fun s => mem s i)) S
  | [], _ => rfl
  | s :: ss, h => by
    have ih := comp_mem n i a0 a1 a2 a3 a4 a5 a6 a8 a9 a11 a12 a13 a14 S ss fun z hz => h z (List.mem_cons_of_mem _ hz)
    have r := run_contains n s.1 s.2 (h s (List.mem_cons_self ..)) i S
    replace r : run (n + 1) 27 [eSt s, .int i] S = .ok (.bl (mem s i)) S := r
    rw [List.map_cons, compD, List.map_cons]
    show _ = Res.ok (D.bl (mem s i) :: bsD (ss.map fun s => mem s i)) S
    generalize eSt s = es at *
    simp [e_C_1006_3, r, ih]
def setsOf (a b : St2) : List St2 := [put 1 a b, put 2 a b, put 3 a b, put 3 ALs a]
theorem sets_ok {a b : St2} (ha : SOk a) (hb : SOk b) : ∀ s ∈ setsOf a b, SOk s ∧ sett s.1 s.2 = s := fun s hs => by
  have key : ∀ (k : Nat) {x y : St2}, SOk x → SOk y → SOk (put k x y) ∧ sett (put k x y).1 (put k x y).2 = put k x y := fun k x y hx hy => ⟨put_ok k hx hy, sett_idem (putD_ne k hx hy)⟩
  simp only [setsOf, List.mem_cons, List.not_mem_nil, or_false] at hs
  rcases hs with rfl | rfl | rfl | rfl
  · exact key 1 ha hb
  · exact key 2 ha hb
  · exact key 3 ha hb
  · exact key 3 al_ok ha
theorem step4 (n : Nat) {a b : St2} (ha : SOk a) (hb : SOk b) (i : Nat) (f : Option Nat) (w : Bool) (v0 v1 : Sl) (S : List D) :
    L_1006_4 (run (n + 1)) [v0, v1, .val (eSt a), .val (eSt b), .val (.lst ((setsOf a b).map eSt)), .val (oD f), .val (.bl w), .val (.int i), .non, .non, .non, .non, .non, .non, .non] S
      = .next [v0, v1, .val (eSt a), .val (eSt b), .val (.lst ((setsOf a b).map eSt)), .val (oD (if (mem a i && f.isNone) = true then some i else f)), .val (.bl (if (mem a i && !mem b i) = true then false else w)), .val (.int i), .val (.bl (mem a i)), .val (.bl (mem b i)), .non, .non, .non, .non, .non] S := by
  have r1 := run_contains n a.1 a.2 ha.ne i S
  replace r1 : run (n + 1) 27 [eSt a, .int i] S = .ok (.bl (mem a i)) S := r1
  have r2 := run_contains n b.1 b.2 hb.ne i S
  replace r2 : run (n + 1) 27 [eSt b, .int i] S = .ok (.bl (mem b i)) S := r2
  have c := comp_mem n i v0 v1 (.val (eSt a)) (.val (eSt b)) (.val (.lst ((setsOf a b).map eSt))) (.val (oD f)) (.val (.bl w)) (.val (.bl (mem a i))) (.val (.bl (mem b i))) .non .non .non .non S (setsOf a b) fun s hs => (sets_ok ha hb s hs).1.ne
  have ms : (setsOf a b).map (fun s => mem s i) = [mem a i || mem b i, mem a i && mem b i, mem a i && !mem b i, !mem a i] := by
    have e1 := put_mem 1 ha hb i
    have e2 := put_mem 2 ha hb i
    have e3 := put_mem 3 ha hb i
    have e4 := put_mem 3 al_ok ha i
    rw [al_mem] at e4
    simp only [setsOf, List.map_cons, List.map_nil, e1, e2, e3, e4]
    rfl
  rw [ms] at c
  have k : lenOk (bsD [mem a i || mem b i, mem a i && mem b i, mem a i && !mem b i, !mem a i]) = some (.lst (bsD [mem a i || mem b i, mem a i && mem b i, mem a i && !mem b i, !mem a i])) := lenOk_bs (by show 4 ≤ 1000; decide)
  have ne := cNe_bsl [mem a i || mem b i, mem a i && mem b i, mem a i && !mem b i, !mem a i]
  generalize eSt a = ea at *
  generalize eSt b = eb at *
  generalize (setsOf a b).map eSt = es at *
  generalize mem a i = x at *
  generalize mem b i = y at *
  have is1 : cIs .non .non = some (.bl true) := rfl
  have is2 : ∀ j, cIs (.int j) .non = some (.bl false) := fun _ => rfl
  cases x <;> cases y <;> cases f <;> simp [bsD, oD] at c k ne <;> simp [e_L_1006_4, r1, r2, c, k, ne, oD, is1, is2]
theorem loop4 (n : Nat) {a b : St2} (ha : SOk a) (hb : SOk b) (v0 v1 : Sl) (S : List D) : ∀ (l : List Nat) (f : Option Nat) (w : Bool),
    forD (.nm 7) [7, 8, 9] (L_1006_4 (run (n + 1))) (l.map fun i : Nat => D.int i) [v0, v1, .val (eSt a), .val (eSt b), .val (.lst ((setsOf a b).map eSt)), .val (oD f), .val (.bl w), .non, .non, .non, .non, .non, .non, .non, .non] S
      = .next [v0, v1, .val (eSt a), .val (eSt b), .val (.lst ((setsOf a b).map eSt)), .val (oD (firstF a l f)), .val (.bl (withF a b l w)), .non, .non, .non, .non, .non, .non, .non, .non] S
  | [], f, w => rfl
  | i :: l, f, w => by
    have e := step4 n ha hb i f w v0 v1 S
    have ih := loop4 n ha hb v0 v1 S l (if (mem a i && f.isNone) = true then some i else f) (if (mem a i && !mem b i) = true then false else w)
    rw [List.map_cons, forD, x_bnm]
    simp only [List.set]
    rw [e]
    exact ih
theorem step5 (n : Nat) (v0 v1 v2 v3 v4 v5 v6 v7 v8 v9 v11 v12 v13 v14 : Sl) (S : List D) (s : St2) (so : SOk s) (si : sett s.1 s.2 = s) :
    L_1006_5 (run (n + 2)) [v0, v1, v2, v3, v4, v5, v6, v7, v8, v9, .val (eSt s), v11, v12, v13, v14] S = .next [v0, v1, v2, v3, v4, v5, v6, v7, v8, v9, .val (eSt s), v11, v12, v13, v14] S := by
  have hd := so.hd
  have hc := so.c3
  have st := run_settled n false false s.1 s.2 so.ne (by omega) (by omega) S
  have e1 : pr (sett s.1 s.2).1 (sett s.1 s.2).2 = eSt s := by rw [si]; rfl
  rw [e1] at st
  replace st : run (n + 2) 26 [.tup (bsD s.1), .tup (bsD s.2)] S = .ok (eSt s) S := st
  have i0 : dIdx (eSt s) (.int 0) = some (.tup (bsD s.1)) := rfl
  have i1 : dIdx (eSt s) (.int 1) = some (.tup (bsD s.2)) := rfl
  have de : ∀ S, deref S (eSt s) = eSt s := fun _ => rfl
  have ne := cNe_st s
  clear e1 si so hd hc
  generalize eSt s = es at *
  simp [e_L_1006_5, de, i0, i1, st, ne]
theorem loop5 (R : Rec) (v0 v1 v2 v3 v4 v5 v6 v7 v8 v9 v11 v12 v13 v14 : Sl) (S : List D) (hs : ∀ s : St2, SOk s → sett s.1 s.2 = s → L_1006_5 R [v0, v1, v2, v3, v4, v5, v6, v7, v8, v9, .val (eSt s), v11, v12, v13, v14] S = .next [v0, v1, v2, v3, v4, v5, v6, v7, v8, v9, .val (eSt s), v11, v12, v13, v14] S) :
    ∀ ss : List St2, (∀ s ∈ ss, SOk s ∧ sett s.1 s.2 = s) → forD (.nm 10) [10] (L_1006_5 R) (ss.map eSt) [v0, v1, v2, v3, v4, v5, v6, v7, v8, v9, .non, v11, v12, v13, v14] S = .next [v0, v1, v2, v3, v4, v5, v6, v7, v8, v9, .non, v11, v12, v13, v14] S := by
  intro ss
  induction ss with
  | nil => intro _; rfl
  | cons s ss ih =>
    intro h
    replace ih := ih fun z hz => h z (List.mem_cons_of_mem _ hz)
    obtain ⟨so, si⟩ := h s (List.mem_cons_self ..)
    have e := hs s so si
    generalize eSt s = es at e
    have key : ∀ es, L_1006_5 R [v0, v1, v2, v3, v4, v5, v6, v7, v8, v9, .val es, v11, v12, v13, v14] S = .next [v0, v1, v2, v3, v4, v5, v6, v7, v8, v9, .val es, v11, v12, v13, v14] S → forD (.nm 10) [10] (L_1006_5 R) (es :: ss.map eSt) [v0, v1, v2, v3, v4, v5, v6, v7, v8, v9, .non, v11, v12, v13, v14] S = .next [v0, v1, v2, v3, v4, v5, v6, v7, v8, v9, .non, v11, v12, v13, v14] S := fun es e => by
      rw [forD, x_bnm]
      simp only [List.set]
      rw [e]
      exact ih
    exact key _ (hs s so si)
theorem step6 (n : Nat) {a : St2} (ha : SOk a) (hh : a.1.length ≤ 10) {lo hi off : Nat} (h0 : lo ≤ 15) (h1 : lo ≤ hi) (h2 : hi < 18) (h3 : off ≤ 10) (i : Nat) (v0 v1 v3 v4 v5 v6 v8 v9 v10 v14 : Sl) (S : List D) :
    L_1006_6 (run (n + 3)) [v0, v1, .val (eSt a), v3, v4, v5, v6, .val (.int i), v8, v9, v10, .val (.int lo), .val (.int hi), .val (.int off), v14] S
      = .next [v0, v1, .val (eSt a), v3, v4, v5, v6, .val (.int i), v8, v9, v10, .val (.int lo), .val (.int hi), .val (.int off), v14] S := by
  have r1 := run_range n (lo := (lo : Int)) (hi := (hi : Int)) (by omega) (by omega) (by omega) S
  rw [Int.toNat_natCast, Int.toNat_natCast] at r1
  have o1 := range_ok h1 h2
  have c1 := run_contains (n + 2) (rangeS lo hi).1 (rangeS lo hi).2 o1.ne i S
  replace c1 : run (n + 3) 27 [eSt (rangeS lo hi), .int i] S = .ok (.bl (mem (rangeS lo hi) i)) S := c1
  rw [range_mem h1] at c1
  have r2 := run_single n (k := lo) (by omega) S
  have o2 := single_ok (k := lo) (by omega)
  have c2 := run_contains (n + 2) (singleS lo).1 (singleS lo).2 o2.ne i S
  replace c2 : run (n + 3) 27 [eSt (singleS lo), .int i] S = .ok (.bl (mem (singleS lo) i)) S := c2
  rw [single_mem] at c2
  have r3 := run_moved n ha (off := off) (by omega) S
  have o3 := moved_ok (off := off) ha (by omega)
  have c3 := run_contains (n + 2) (movedS a off).1 (movedS a off).2 o3.ne i S
  replace c3 : run (n + 3) 27 [eSt (movedS a off), .int i] S = .ok (.bl (mem (movedS a off) i)) S := c3
  rw [moved_mem ha] at c3
  have c4 := run_contains (n + 2) a.1 a.2 ha.ne (i - off) S
  replace c4 : run (n + 3) 27 [eSt a, .int ((i - off : Nat) : Int)] S = .ok (.bl (mem a (i - off))) S := c4
  have mx : dMax (.int 0) (.int ((i : Int) - (off : Int))) = some (.int ((i - off : Nat) : Int)) := by
    show some (D.int (if (i : Int) - (off : Int) > 0 then (i : Int) - (off : Int) else 0)) = _
    split
    · congr 2; omega
    · congr 2; omega
  have ce : cEq (.int (i : Int)) (.int (lo : Int)) = some (.bl (decide (i = lo))) := by
    unfold cEq
    rw [dEq_int]
    show some (D.bl ((i : Int) == (lo : Int))) = _
    congr 2
    by_cases z : i = lo
    · rw [decide_eq_true z, z, beq_self_eq_true]
    · rw [decide_eq_false z, beq_eq_false_iff_ne]; omega
  generalize eSt (rangeS lo hi) = e1 at *
  generalize eSt (singleS lo) = e2 at *
  generalize eSt (movedS a off) = e3 at *
  generalize eSt a = ea at *
  generalize mem a (i - off) = y at *
  by_cases q1 : lo ≤ i
  · by_cases q2 : i ≤ hi
    · by_cases q3 : off ≤ i
      · simp [q1, q2, q3] at c1 c3
        simp [e_L_1006_6, r1, c1, r2, c2, r3, c3, c4, ce, mx, cNe_bl, q1, q2, q3]
      · simp [q1, q2, q3] at c1 c3
        simp [e_L_1006_6, r1, c1, r2, c2, r3, c3, c4, ce, mx, cNe_bl, q1, q2, q3]
    · by_cases q3 : off ≤ i
      · simp [q1, q2, q3] at c1 c3
        simp [e_L_1006_6, r1, c1, r2, c2, r3, c3, c4, ce, mx, cNe_bl, q1, q2, q3]
      · simp [q1, q2, q3] at c1 c3
        simp [e_L_1006_6, r1, c1, r2, c2, r3, c3, c4, ce, mx, cNe_bl, q1, q2, q3]
  · by_cases q3 : off ≤ i
    · simp [q1, q3] at c1 c3
      simp [e_L_1006_6, r1, c1, r2, c2, r3, c3, c4, ce, mx, cNe_bl, q1, q3]
    · simp [q1, q3] at c1 c3
      simp [e_L_1006_6, r1, c1, r2, c2, r3, c3, c4, ce, mx, cNe_bl, q1, q3]
theorem loop6 (n : Nat) {a : St2} (ha : SOk a) (hh : a.1.length ≤ 10) {lo hi off : Nat} (h0 : lo ≤ 15) (h1 : lo ≤ hi) (h2 : hi < 18) (h3 : off ≤ 10) (v0 v1 v3 v4 v5 v6 v8 v9 v10 v14 : Sl) (S : List D) : ∀ l : List Nat,
    forD (.nm 7) [7] (L_1006_6 (run (n + 3))) (l.map fun i : Nat => D.int i) [v0, v1, .val (eSt a), v3, v4, v5, v6, .non, v8, v9, v10, .val (.int lo), .val (.int hi), .val (.int off), v14] S
      = .next [v0, v1, .val (eSt a), v3, v4, v5, v6, .non, v8, v9, v10, .val (.int lo), .val (.int hi), .val (.int off), v14] S
  | [] => rfl
  | i :: l => by
    have e := step6 n ha hh h0 h1 h2 h3 i v0 v1 v3 v4 v5 v6 v8 v9 v10 v14 S
    rw [List.map_cons, forD, x_bnm]
    simp only [List.set]
    rw [e]
    exact loop6 n ha hh h0 h1 h2 h3 v0 v1 v3 v4 v5 v6 v8 v9 v10 v14 S l
end

end
section
open PySem L2 DL
/-! ### the law -/
section
theorem run_within (n : Nat) {a b : St2} (ha : SOk a) (hb : SOk b) (S : List D) : run (n + 5) 35 [eSt a, eSt b] S = .ok (.bl (emS (put 3 a b))) S := by
  show run (n + 4 + 1) 35 _ S = _
  rw [run_35]
  have r1 := run_diff n ha hb S
  have r2 := run_empty (n + 3) (put 3 a b) S
  replace r2 : run (n + 4) 34 [eSt (put 3 a b)] S = _ := r2
  generalize eSt (put 3 a b) = e3 at *
  generalize eSt a = ea at *
  generalize eSt b = eb at *
  simp [B_35, r1, r2]
theorem dvd60 {l : Nat} (h0 : 0 < l) (h : l ≤ 5) : l ∣ 60 := by
  rcases (by omega : l = 1 ∨ l = 2 ∨ l = 3 ∨ l = 4 ∨ l = 5) with rfl | rfl | rfl | rfl | rfl
  · exact ⟨60, rfl⟩
  · exact ⟨30, rfl⟩
  · exact ⟨20, rfl⟩
  · exact ⟨15, rfl⟩
  · exact ⟨12, rfl⟩
/-- one drawn set -/
theorem mk_set (n : Nat) (S : List D) (hS : Bx S) : ∃ (h c : List Bool) (q : Int) (S1 S2 S3 : List D) (bs : List Bool), run (n + 2) 1003 [.ptr 0, .int 7] S = .ok (.tup (bsD h)) S1 ∧ run (n + 2) 1002 [.ptr 0, .int 2] S1 = .ok (.int q) S2 ∧
    run (n + 2) 1003 [.ptr 0, .int 5] S2 = .ok (.tup (bsD bs)) S3 ∧ Bx S3 ∧ dAdd (.tup [.bl (q == 0)]) (.tup (bsD bs)) = some (.tup (bsD c)) ∧ run (n + 2) 26 [.tup (bsD h), .tup (bsD c)] S3 = .ok (eSt (sett h c)) S3 ∧
    c ≠ [] ∧ SOk (sett h c) ∧ (sett h c).1.length ≤ 10 := by
  obtain ⟨h, S1, h1, b1, l1⟩ := run_row n 7 (by decide) (by decide) S hS
  obtain ⟨q, S2, h2, b2, _, _⟩ := run_draw (n + 1) 2 (by decide) S1 b1
  obtain ⟨bs, S3, h3, b3, l3⟩ := run_row n 5 (by decide) (by decide) S2 b2
  have hc : ((q == 0) :: bs) ≠ [] := List.cons_ne_nil _ _
  have cl : ((q == 0) :: bs).length = bs.length + 1 := rfl
  have so := sett_ok (h := h) hc (dvd60 (by omega) (by omega)) (by omega)
  have hl := (sett_stl (h := h) hc).2
  refine ⟨h, (q == 0) :: bs, q, S1, S2, S3, bs, h1, h2, h3, b3, ?_, run_settled n false false h ((q == 0) :: bs) hc (by omega) (by omega) S3, hc, so, by omega⟩
  exact dAdd_tup (by rw [bsD_len]; show 1 + bs.length ≤ _; omega)
theorem comp_id (R : Rec) (a0 a1 a2 a3 a4 a5 a6 a7 a8 a9 a10 a11 a12 a13 : Sl) (S : List D) : ∀ xs : List D, compD (.nm 14) tTrue (C_1006_1 R) xs [a0, a1, a2, a3, a4, a5, a6, a7, a8, a9, a10, a11, a12, a13, .non] S = .ok xs S
  | [] => rfl
  | x :: xs => by
    have ih := comp_id R a0 a1 a2 a3 a4 a5 a6 a7 a8 a9 a10 a11 a12 a13 S xs
    rw [compD]
    simp [e_C_1006_1, ih]
theorem comp_far (n : Nat) (a0 a2 a3 a4 a5 a6 a7 a8 a9 a10 a11 a12 a13 : Sl) : ∀ (xs : List D) (S : List D), Bx S → ∃ (ks : List Nat) (S' : List D), ks.length = xs.length ∧ Bx S' ∧
    compD (.nm 14) tTrue (C_1006_2 (run (n + 2))) xs [a0, .val (.ptr 0), a2, a3, a4, a5, a6, a7, a8, a9, a10, a11, a12, a13, .non] S = .ok (ks.map fun k : Nat => D.int k) S'
  | [], S, hS => ⟨[], S, rfl, hS, rfl⟩
  | x :: xs, S, hS => by
    obtain ⟨k, S1, h1, b1⟩ := run_far n S hS
    obtain ⟨ks, S2, l2, b2, h2⟩ := comp_far n a0 a2 a3 a4 a5 a6 a7 a8 a9 a10 a11 a12 a13 xs S1 b1
    refine ⟨k :: ks, S2, by rw [List.length_cons, List.length_cons, l2], b2, ?_⟩
    rw [compD, List.map_cons]
    simp [e_C_1006_2, h1, h2]
theorem cIs_oD (x : Option Nat) : cIs (oD x) .non = some (.bl x.isNone) := by cases x <;> rfl
theorem law_true : ∀ ns : List Int, ns.length ≤ 63 → ∃ S, run 12 1006 [.scr ns] [] = .ok (.bl true) S := fun ns _ => by
  obtain ⟨ds, h0, _⟩ := run_digits 9 ns
  replace h0 : run 11 1001 [.scr ns, .int 0, .int 63] [] = .ok (.lst (ds.map .int)) [] := h0
  obtain ⟨ha1, ca, qa, S1, S2, S3, bsa, a1, a2, a3, b3, a4, a5, ac, ao, al⟩ := mk_set 9 [box ds 0] ⟨ds, 0, [], rfl⟩
  obtain ⟨hb1, cb, qb, S4, S5, S6, bsb, d1, d2, d3, b6, d4, d5, bc, bo, bl⟩ := mk_set 9 S3 b3
  have ee := em_least ac ao
  generalize sett ha1 ca = a at *
  generalize sett hb1 cb = b at *
  have r30 := run_union 7 ao bo S6
  have r31 := run_common 7 ao bo S6
  have r32 := run_diff 7 ao bo S6
  have r33 := run_compl 6 ao S6
  have sm : (setsOf a b).map eSt = [eSt (put 1 a b), eSt (put 2 a b), eSt (put 3 a b), eSt (put 3 ALs a)] := rfl
  have c1 := comp_id (run 11) (.val (.scr ns)) (.val (.ptr 0)) (.val (eSt a)) (.val (eSt b)) (.val (.lst ((setsOf a b).map eSt))) (.val .non) (.val (.bl true)) .non .non .non .non .non .non .non S6 (rangeD 0 80)
  obtain ⟨ks, S7, kl, b7, c2⟩ := comp_far 9 (.val (.scr ns)) (.val (eSt a)) (.val (eSt b)) (.val (.lst ((setsOf a b).map eSt))) (.val .non) (.val (.bl true)) .non .non .non .non .non .non .non (rangeD 0 9) S6 b6
  rw [rangeD_len] at kl
  have k1 : lenOk (rangeD 0 80) = some (.lst (rangeD 0 80)) := lenOk_of (by rw [rangeD_len]; decide)
  have k2 : lenOk (ks.map fun k : Nat => D.int k) = some (.lst (ks.map fun k : Nat => D.int k)) := lenOk_of (by rw [List.length_map, kl]; decide)
  have r80 : rangeD 0 80 = (List.range 80).map fun k : Nat => D.int k := by unfold rangeD; simp
  have ad : dAdd (.lst (rangeD 0 80)) (.lst (ks.map fun k : Nat => D.int k)) = some (.lst ((List.range 80 ++ ks).map fun k : Nat => D.int k)) := by
    rw [List.map_append, ← r80]
    exact dAdd_lst (by rw [rangeD_len, List.length_map, kl]; decide)
  have l4 := loop4 10 ao bo (.val (.scr ns)) (.val (.ptr 0)) S7 (List.range 80 ++ ks) none true
  rw [least_first ao, with_em ao bo] at l4
  have l5 := loop5 (run 11) (.val (.scr ns)) (.val (.ptr 0)) (.val (eSt a)) (.val (eSt b)) (.val (.lst ((setsOf a b).map eSt))) (.val (oD (leastN a))) (.val (.bl (emS (put 3 a b)))) .non .non .non .non .non .non .non S7 (fun s so si => step5 9 _ _ _ _ _ _ _ _ _ _ _ _ _ _ S7 s so si) (setsOf a b) (sets_ok ao bo)
  have r36 := run_least 10 ao S7
  have r34 := run_empty 10 a S7
  rw [ee] at r34
  have r35 := run_within 6 ao bo S7
  have n34 := run_empty 10 NOs S7
  replace n34 : run 11 34 [.tup [.tup [], .tup [.bl false]]] S7 = .ok (.bl true) S7 := n34
  obtain ⟨kf, S8, f1, b8⟩ := run_far 9 S7 b7
  have f2 := run_contains 10 ALs.1 ALs.2 al_ok.ne kf S8
  have f3 := al_mem kf
  replace f2 : run 11 27 [.tup [.tup [], .tup [.bl true]], .int kf] S8 = .ok (.bl (mem ALs kf)) S8 := f2
  rw [f3] at f2
  obtain ⟨lo, S9, g1, b9, lo0, lo9⟩ := run_draw 10 9 (by decide) S8 b8
  obtain ⟨dd, S10, g2, b10, dd0, dd9⟩ := run_draw 10 9 (by decide) S9 b9
  obtain ⟨off, S11, g3, b11, of0, of9⟩ := run_draw 10 10 (by decide) S10 b10
  obtain ⟨lo, rfl⟩ : ∃ k : Nat, lo = (k : Int) := ⟨lo.toNat, by omega⟩
  obtain ⟨dd, rfl⟩ : ∃ k : Nat, dd = (k : Int) := ⟨dd.toNat, by omega⟩
  obtain ⟨off, rfl⟩ : ∃ k : Nat, off = (k : Int) := ⟨off.toNat, by omega⟩
  have l6 := loop6 8 ao al (lo := lo) (hi := lo + dd) (off := off) (by omega) (by omega) (by omega) (by omega) (.val (.scr ns)) (.val (.ptr 0)) (.val (eSt b)) (.val (.lst ((setsOf a b).map eSt))) (.val (oD (leastN a))) (.val (.bl (emS (put 3 a b)))) .non .non .non .non S11 (List.range 40)
  have r40 : ((List.range 40).map fun k : Nat => D.int k) = rangeD 0 40 := by unfold rangeD; simp
  rw [r40, Int.natCast_add] at l6
  have i80 : inR 80 = true := by decide
  have i9 : inR 9 = true := by decide
  have i40 : inR 40 = true := by decide
  have o1 := cNe_oD (leastN a)
  have o2 := cIs_oD (leastN a)
  have o3 : ∀ x : Bool, cNe (.bl x) (.bl x) = some (.bl false) := fun x => by rw [cNe_bl, beq_self_eq_true]; rfl
  have de : ∀ S, deref S (oD (leastN a)) = oD (leastN a) := fun S => by cases leastN a <;> rfl
  rw [show oD none = .non from rfl] at l4
  rw [sm] at c1 c2 l4 l5 l6
  refine ⟨S11, ?_⟩
  show run (11 + 1) 1006 _ _ = _
  rw [run_1006]
  have ds0 : ∀ S, deref S (eSt a) = eSt a := fun _ => rfl
  generalize run 11 = R at *
  generalize eSt (put 1 a b) = e1 at *
  generalize eSt (put 2 a b) = e2 at *
  generalize eSt (put 3 ALs a) = e4 at *
  generalize eSt (put 3 a b) = e3 at *
  generalize eSt a = ea at *
  generalize eSt b = eb at *
  generalize oD (leastN a) = ol at *
  generalize emS (put 3 a b) = w at *
  generalize (leastN a).isNone = w2 at *
  generalize ((List.range 80 ++ ks).map fun k : Nat => D.int k) = nums at *
  generalize bsD ca = tca at *
  generalize bsD cb = tcb at *
  replace a1 : R 1003 [.ptr 0, .int 7] [.lst [.lst (ds.map .int), .int 0]] = .ok (.tup (bsD ha1)) S1 := a1
  simp [B_1006, h0, a1, a2, a3, a4, a5, d1, d2, d3, d4, d5, r30, r31, r32, r33, i80, i9, i40, c1, k1, c2, k2, ad, l4, l5, r36, r34, r35, de, o1, o2, o3, n34, f1, f2, g1, g2, g3, l6]
end

end
end PV
open PySem PySem.W PyProof.Rows
local macro_rules
  | `(tactic| o_head ($f:term $K:term $as:term $e:term)) => `(tactic| o_head (DL.tabHook $K $as $e [62, 69, 76] 0))
  | `(tactic| o_head ($f:term $K:term $as:term $e:term $ts:term)) => `(tactic| o_head (DL.tabHook $K $as $e [62, 69, 76] 0))
set_option maxRecDepth 100000 in
set_option maxHeartbeats 0 in
theorem PySem.Challenge.cw_messageways_k09_sets_put_together_holds : PySem.Challenge.rw_messageways_k09_sets_put_together.Holds := by
  w_on; o_law; k_head; (case hw => w_witness2)
  k_fill
  refine DL.law_headT (l := PySem.Challenge.rw_messageways_k09_sets_put_together) (k := 96) (x := "_law_script") rfl rfl ⟨⟨rfl, by decide, by decide⟩, rfl⟩ (fun w h Y => PySem.W.km_in_of Y) ?F
  case F =>
    intro w mg fa h Y KX G hmg
    have hTabs := PySem.W.km_tabs_of Y
    refine' PV.all_mk KX G hmg ?a24 ?l24 ?c24 ?k24 ?a25 ?l25 ?c25 ?k25 ?a26 ?l26 ?c26 ?k26 ?a27 ?l27 ?c27 ?k27 ?a28 ?l28 ?c28 ?k28 ?a29 ?l29 ?c29 ?k29 ?a30 ?l30 ?c30 ?k30 ?a31 ?l31 ?c31 ?k31 ?a32 ?l32 ?c32 ?k32 ?a33 ?l33 ?c33 ?k33 ?a34 ?l34 ?c34 ?k34 ?a35 ?l35 ?c35 ?k35 ?a36 ?l36 ?c36 ?k36 ?a37 ?l37 ?c37 ?k37 ?a38 ?l38 ?c38 ?k38 ?a39 ?l39 ?c39 ?k39 ?a1000 ?l1000 ?c1000 ?k1000 ?a1001 ?l1001 ?c1001 ?k1001 ?a1002 ?l1002 ?c1002 ?k1002 ?a1003 ?l1003 ?c1003 ?k1003 ?a1005 ?l1005 ?c1005 ?k1005 ?a1006 ?l1006 ?c1006 ?k1006 ?z_int ?z_len ?z_max ?z_range ?z_tuple ?q_ALL ?rn0_ALL ?rn1_ALL ?rn2_ALL ?q_NONE ?rn0_NONE ?rn1_NONE ?rn2_NONE ?hd30 ?nk30 ?hd31 ?nk31 ?hd32 ?nk32 (fun P h => hTabs P (by revert P; decide)) PV.law_true
    (case a24 => k_is)
    (case l24 => k_is)
    (case c24 => k_is)
    (case k24 => k_is)
    (case a25 => k_is)
    (case l25 => k_is)
    (case c25 => k_is)
    (case k25 => k_is)
    (case a26 => k_is)
    (case l26 => k_is)
    (case c26 => k_is)
    (case k26 => k_is)
    (case a27 => k_is)
    (case l27 => k_is)
    (case c27 => k_is)
    (case k27 => k_is)
    (case a28 => k_is)
    (case l28 => k_is)
    (case c28 => k_is)
    (case k28 => k_is)
    (case a29 => k_is)
    (case l29 => k_is)
    (case c29 => k_is)
    (case k29 => k_is)
    (case a30 => k_is)
    (case l30 => k_is)
    (case c30 => k_is)
    (case k30 => k_is)
    (case a31 => k_is)
    (case l31 => k_is)
    (case c31 => k_is)
    (case k31 => k_is)
    (case a32 => k_is)
    (case l32 => k_is)
    (case c32 => k_is)
    (case k32 => k_is)
    (case a33 => k_is)
    (case l33 => k_is)
    (case c33 => k_is)
    (case k33 => k_is)
    (case a34 => k_is)
    (case l34 => k_is)
    (case c34 => k_is)
    (case k34 => k_is)
    (case a35 => k_is)
    (case l35 => k_is)
    (case c35 => k_is)
    (case k35 => k_is)
    (case a36 => k_is)
    (case l36 => k_is)
    (case c36 => k_is)
    (case k36 => k_is)
    (case a37 => k_is)
    (case l37 => k_is)
    (case c37 => k_is)
    (case k37 => k_is)
    (case a38 => k_is)
    (case l38 => k_is)
    (case c38 => k_is)
    (case k38 => k_is)
    (case a39 => k_is)
    (case l39 => k_is)
    (case c39 => k_is)
    (case k39 => k_is)
    (case a1000 => k_is)
    (case l1000 => k_is)
    (case c1000 => k_is)
    (case k1000 => k_is)
    (case a1001 => k_is)
    (case l1001 => k_is)
    (case c1001 => k_is)
    (case k1001 => k_is)
    (case a1002 => k_is)
    (case l1002 => k_is)
    (case c1002 => k_is)
    (case k1002 => k_is)
    (case a1003 => k_is)
    (case l1003 => k_is)
    (case c1003 => k_is)
    (case k1003 => k_is)
    (case a1005 => k_is)
    (case l1005 => k_is)
    (case c1005 => k_is)
    (case k1005 => k_is)
    (case a1006 => k_is)
    (case l1006 => k_is)
    (case c1006 => k_is)
    (case k1006 => k_is)
    (case z_int => k_is)
    (case z_len => k_is)
    (case z_max => k_is)
    (case z_range => k_is)
    (case z_tuple => k_is)
    (case q_ALL => k_is)
    (case rn0_ALL => k_is)
    (case rn1_ALL => k_is)
    (case rn2_ALL => k_is)
    (case q_NONE => k_is)
    (case rn0_NONE => k_is)
    (case rn1_NONE => k_is)
    (case rn2_NONE => k_is)
    (case hd30 => first | rfl | decide +kernel)
    (case nk30 => first | rfl | decide +kernel)
    (case hd31 => first | rfl | decide +kernel)
    (case nk31 => first | rfl | decide +kernel)
    (case hd32 => first | rfl | decide +kernel)
    (case nk32 => first | rfl | decide +kernel)
