import PyProof.Rows.All
import HandS.Base
import HandS.Call
import HandS.List
import HandS.Comp
import HandS.Exc
import HandS.Lambda
import HandS.TupMul
import KE.SortData
import KE.DataCmp
import HandS.ExcInit
import HandS.Defaults
import HandS.ForMost
import HandS.Wide
import HandS.WideBits
import HandS.IsInst
import HandS.Gcd
import HandS.Deep
import HandS.TupAny
import HandS.Conv
import HandS.Style
import KE.KMathGC
import HandS.ExcField
import HandS.SetFor
import KE.GoesEnum
import HandS.Iter
import HandS.Zip
import HandS.TryMany
import HandS.EndBits
import HandS.EndTab
import HandS.HeadHook4
import HandS.HeadHook2
import HandS.Words
import PyProof.StrLawsRepr
import PyProof.Rows.StrJoinMade
import PyProof.Rows.StrDigitsNeg
import KE.DatumOrd
import HandS.Head0
import HandS.Head1
import HandS.Head2
import HandS.HeadEnd
import HandS.HeadHook1
import HandS.HeadHook3
import KE.KStateDown
import PySem.Challenge.RW_heldloose_k59_whole_any_values_as_rows_o
set_option Elab.async false
set_option linter.all false
set_option maxRecDepth 100000
set_option maxHeartbeats 4000000
namespace PyD
open PySem PySem.Spec PyProof.Rows L2

/-- the two numbers of the law's pot -/
abbrev Pot := Int × Int
inductive Res (α : Type) where
  | ok (a : α) (st : Pot)
  | exc (c : Nat) (x : Option PyData) (st : Pot)
  | bad
abbrev Lm := Pot → Res PyData
inductive Val where
  | d (x : PyData)
  | pot
  | lam (m : Lm)
  | lams (ms : List Lm)
/-- a slot of a frame -/
inductive Sl where
  | un
  | v (x : Val)
  | own (xs : List PyData)
  /-- one's own list of lambdas, by their numbers -/
  | lamL (ks : List Nat)

/-! ### what stands for data -/
abbrev nilH : Hp := fun _ => none
mutual
inductive Rp (K : PySem.W.Frag) (Fz : Addr → Prop) (H : Hp) : V → PyData → Prop
  | non : Rp K Fz H .non .none
  | bl (b : Bool) : Rp K Fz H (.bl b) (.bool b)
  | int (i : Int) : Rp K Fz H (.int i) (.int i)
  | str (x : Str) : Rp K Fz H (.str x) (.str x)
  | lst {a : Addr} {xs : List V} {ds : List PyData} : Rd H a (.lst xs) → Fz a → Rps K Fz H xs ds → Rp K Fz H (.ref a) (.list ds)
  | tup {a : Addr} {xs : List V} {ds : List PyData} : ((Rd H a (.tup xs) ∧ Fz a) ∨ SqT K nilH a xs) → Rps K Fz H xs ds → Rp K Fz H (.ref a) (.tuple ds)
  | dct {a : Addr} : H a = some (.dK []) → Fz a → Rp K Fz H (.ref a) (.dict [])
inductive Rps (K : PySem.W.Frag) (Fz : Addr → Prop) (H : Hp) : List V → List PyData → Prop
  | nil : Rps K Fz H [] []
  | cons {v : V} {vs : List V} {d : PyData} {ds : List PyData} : Rp K Fz H v d → Rps K Fz H vs ds → Rps K Fz H (v :: vs) (d :: ds)
end

section
variable {K : PySem.W.Frag} {Fz Fz' : Addr → Prop} {H H' : Hp}

theorem sqL_nil {a : Addr} {xs : List V} (h : SqL K nilH a xs) : SqL K H a xs := by
  rcases h with (h | ⟨o, h⟩) | h
  · cases h
  · cases h
  · exact .inr h
theorem sqT_nil {a : Addr} {xs : List V} (h : SqT K nilH a xs) : SqT K H a xs := by
  rcases h with (h | ⟨o, h⟩) | h
  · cases h
  · cases h
  · exact .inr h
theorem rd_move {a : Addr} {u : HO} (h : Rd H a u) (k : ∀ o, H a = some o → H' a = some o) : Rd H' a u := by
  rcases h with h | ⟨o, h⟩
  · exact .inl (k _ h)
  · exact .inr ⟨o, k _ h⟩
mutual
theorem Rp.move (f : ∀ a, Fz a → Fz' a) (k : ∀ a o, Fz a → H a = some o → H' a = some o) : ∀ {d : PyData} {v : V}, Rp K Fz H v d → Rp K Fz' H' v d
  | .none, _, h => by cases h; exact .non
  | .bool _, _, h => by cases h; exact .bl _
  | .int _, _, h => by cases h; exact .int _
  | .str _, _, h => by cases h; exact .str _
  | .list _, _, h => by
    cases h with
    | lst q z r => exact .lst (rd_move q fun o e => k _ o z e) (f _ z) (Rps.move f k r)
  | .tuple _, _, h => by
    cases h with
    | tup q r => exact .tup (q.imp (fun z => ⟨rd_move z.1 fun o e => k _ o z.2 e, f _ z.2⟩) id) (Rps.move f k r)
  | .dict _, _, h => by
    cases h with
    | dct q r => exact .dct (k _ _ r q) (f _ r)
theorem Rps.move (f : ∀ a, Fz a → Fz' a) (k : ∀ a o, Fz a → H a = some o → H' a = some o) : ∀ {ds : List PyData} {vs : List V}, Rps K Fz H vs ds → Rps K Fz' H' vs ds
  | [], _, h => by cases h; exact .nil
  | _ :: _, _, h => by
    cases h with
    | cons q r => exact .cons (Rp.move f k q) (Rps.move f k r)
end
theorem Rps.length : ∀ {ds : List PyData} {vs : List V}, Rps K Fz H vs ds → vs.length = ds.length
  | [], _, h => by cases h; rfl
  | _ :: _, _, h => by
    cases h with
    | cons q r => rw [List.length_cons, List.length_cons, r.length]
theorem Rps.get : ∀ {ds : List PyData} {vs : List V} {i : Nat} {d : PyData}, Rps K Fz H vs ds → ds[i]? = some d → ∃ v, vs[i]? = some v ∧ Rp K Fz H v d
  | [], _, _, _, _, e => by simp at e
  | _ :: _, _, 0, _, h, e => by
    cases h with
    | cons q r =>
      have e1 : _ = _ := Option.some.inj e
      subst e1
      exact ⟨_, rfl, q⟩
  | _ :: _, _, i + 1, _, h, e => by
    cases h with
    | cons q r => exact r.get (i := i) e
theorem Rps.get' : ∀ {ds : List PyData} {vs : List V} {i : Nat} {v : V}, Rps K Fz H vs ds → vs[i]? = some v → ∃ d, ds[i]? = some d ∧ Rp K Fz H v d
  | [], _, _, _, h, e => by cases h; simp at e
  | _ :: _, _, 0, _, h, e => by
    cases h with
    | cons q r =>
      have e1 : _ = _ := Option.some.inj e
      subst e1
      exact ⟨_, rfl, q⟩
  | _ :: _, _, i + 1, _, h, e => by
    cases h with
    | cons q r => exact r.get' (i := i) e
theorem Rps.append : ∀ {ds es : List PyData} {vs ws : List V}, Rps K Fz H vs ds → Rps K Fz H ws es → Rps K Fz H (vs ++ ws) (ds ++ es)
  | [], _, _, _, h, h2 => by cases h; exact h2
  | _ :: _, _, _, _, h, h2 => by
    cases h with
    | cons q r => exact .cons q (r.append h2)
theorem Rps.take : ∀ {ds : List PyData} {vs : List V} (n : Nat), Rps K Fz H vs ds → Rps K Fz H (vs.take n) (ds.take n)
  | [], _, _, h => by cases h; simp; exact .nil
  | _ :: _, _, 0, _ => by simp; exact .nil
  | _ :: _, _, n + 1, h => by
    cases h with
    | cons q r => exact .cons q (r.take n)
theorem Rps.drop : ∀ {ds : List PyData} {vs : List V} (n : Nat), Rps K Fz H vs ds → Rps K Fz H (vs.drop n) (ds.drop n)
  | [], _, _, h => by cases h; simp; exact .nil
  | _ :: _, _, 0, h => h
  | _ :: _, _, n + 1, h => by
    cases h with
    | cons q r => exact r.drop n
theorem Rps.reverse : ∀ {ds : List PyData} {vs : List V}, Rps K Fz H vs ds → Rps K Fz H vs.reverse ds.reverse
  | [], _, h => by cases h; exact .nil
  | _ :: _, _, h => by
    cases h with
    | cons q r => rw [List.reverse_cons, List.reverse_cons]; exact r.reverse.append (.cons q .nil)
theorem Rps.set : ∀ {ds : List PyData} {vs : List V} {v : V} {d : PyData} (i : Nat), Rps K Fz H vs ds → Rp K Fz H v d → Rps K Fz H (vs.set i v) (ds.set i d)
  | [], _, _, _, _, h, _ => by cases h; exact .nil
  | _ :: _, _, _, _, 0, h, q => by
    cases h with
    | cons _ r => exact .cons q r
  | _ :: _, _, _, _, i + 1, h, q => by
    cases h with
    | cons q' r => exact .cons q' (r.set i q)
end

/-! ### flat data: no object -/
def flat : PyData → Bool
  | .none | .bool _ | .int _ | .str _ => true
  | _ => false
theorem Rp.flat {K : PySem.W.Frag} {Fz Fz' : Addr → Prop} {H H' : Hp} {v : V} : ∀ {d : PyData}, PyD.flat d = true → Rp K Fz H v d → Rp K Fz' H' v d
  | .none, _, h => by cases h; exact .non
  | .bool _, _, h => by cases h; exact .bl _
  | .int _, _, h => by cases h; exact .int _
  | .str _, _, h => by cases h; exact .str _
  | .list _, e, _ => by cases e
  | .tuple _, e, _ => by cases e
  | .dict _, e, _ => by cases e

/-! ### the situation, and how it goes on -/
/-- the tables of code objects; what was tracked at the def's entry -/
structure Tb where
  t : List (Addr × Str)
  he : Hp
  fe : Addr → Prop
structure Sit (T : Tb) (p : Option Addr) (Fz : Addr → Prop) (H : Hp) (st : Pot) : Prop where
  pot : ∀ q, p = some q → H q = some (.lst [.int st.1, .int st.2]) ∧ ¬ Fz q
  fz : ∀ a, Fz a → ∃ o, H a = some o ∧ ∀ ps, o ≠ .tbl ps
  tabs : LamX.Tabs T.t H
  ent : ∀ a o, T.he a = some o → p ≠ some a → (∀ ps, o ≠ .tbl ps) → H a = some o
  pres : ∀ a o, T.he a = some o → ∃ o', H a = some o'
  fe : ∀ a, T.fe a → Fz a
structure Ext (p : Option Addr) (Fz : Addr → Prop) (H : Hp) (Fz' : Addr → Prop) (H' : Hp) : Prop where
  fz : ∀ a, Fz a → Fz' a
  keep : ∀ a o, H a = some o → p ≠ some a → (∀ ps, o ≠ .tbl ps) → H' a = some o
  new : ∀ a, Fz' a → Fz a ∨ H a = none
  there : ∀ a o, H a = some o → ∃ o', H' a = some o'
section
variable {T : Tb} {p : Option Addr} {Fz Fz1 Fz2 : Addr → Prop} {H H1 H2 : Hp} {st : Pot}
theorem Ext.refl : Ext p Fz H Fz H := ⟨fun _ h => h, fun _ _ h _ _ => h, fun _ h => .inl h, fun _ o h => ⟨o, h⟩⟩
theorem Ext.trans (a : Ext p Fz H Fz1 H1) (b : Ext p Fz1 H1 Fz2 H2) : Ext p Fz H Fz2 H2 := by
  refine ⟨fun c h => b.fz c (a.fz c h), fun c o h n t => b.keep c o (a.keep c o h n t) n t, fun c h => ?_, fun c o h => let ⟨o', e⟩ := a.there c o h; b.there c o' e⟩
  rcases b.new c h with h | h
  · exact a.new c h
  · cases e : H c with
    | none => exact .inr rfl
    | some o =>
      obtain ⟨o', e'⟩ := a.there c o e
      rw [h] at e'
      cases e'
end
end PyD
namespace PyD
open PySem PySem.Spec PyProof.Rows L2
theorem tup_mul_same (l : Addr) (items : Array Value) (n : Nat) (dd : Option Addr) (sl : Array (Option Value)) (x : Int) (u : Tok) (c0 : (decide (x < -(2 ^ 63)) || decide (x ≥ 2 ^ 63)) = false) (c1 : (items.isEmpty || x == 1) = true) :
    Meets (Builtin.«tuple.__mul__» ⟨[.ref l, .int x u], []⟩) (fun _ R s => s.heap.get? l = some { cls := .type "tuple", dict := dd, data := .seq items n, slots := sl } ∧ R (.ok (.ret (Value.ref l))) s) :=
  .of_wp fun prog w A R s h => by
    obtain ⟨hp, g, d, tk, os⟩ := s
    obtain ⟨hl, h⟩ := h
    have f1 := AutoSeq1.idx_int
    wp_walk using wpAny_loadPart' hl
    repeat (first
      | (refine wpAny_ite_false (decide_eq_false (by rw [c0]; exact Bool.false_ne_true)) ?_; wp_walk using wpAny_loadPart' hl)
      | (refine wpAny_ite_true (decide_eq_true c1) ?_; wp_walk using wpAny_loadPart' hl))
    exact ⟨_, rfl, h⟩
theorem tup_mul_none (l : Addr) (items : Array Value) (n : Nat) (dd : Option Addr) (sl : Array (Option Value)) (x : Int) (u : Tok) (c0 : (decide (x < -(2 ^ 63)) || decide (x ≥ 2 ^ 63)) = false) (c1 : (items.isEmpty || x == 1) = false) (c2 : (decide (x ≤ 0) || items.isEmpty) = true) :
    Meets (Builtin.«tuple.__mul__» ⟨[.ref l, .int x u], []⟩) (fun _ R s => s.heap.get? l = some { cls := .type "tuple", dict := dd, data := .seq items n, slots := sl } ∧
      R (.ok (.ret (Value.ref s.heap.objs.size))) { s with heap := s.heap.push { cls := Value.type "tuple", data := Data.seq #[] }, toks := s.toks }) :=
  .of_wp fun prog w A R s h => by
    obtain ⟨hp, g, d, tk, os⟩ := s
    obtain ⟨hl, h⟩ := h
    have f1 := AutoSeq1.idx_int
    wp_walk using wpAny_loadPart' hl
    repeat (first
      | (refine wpAny_ite_false (decide_eq_false (by rw [c0]; exact Bool.false_ne_true)) ?_; wp_walk using wpAny_loadPart' hl)
      | (refine wpAny_ite_false (decide_eq_false (by rw [c1]; exact Bool.false_ne_true)) ?_; wp_walk using wpAny_loadPart' hl)
      | (refine wpAny_ite_true (decide_eq_true c2) ?_; wp_walk using wpAny_loadPart' hl))
    exact ⟨_, rfl, h⟩
/-- t * k, whatever k between -1000 and 1000 -/
def rRepA (K : PySem.W.Frag) : R2 := fun x y H Q => ∃ l k xs, x = .ref l ∧ y = .int k ∧ SqT K H l xs ∧ -1000 ≤ k ∧ k ≤ 1000 ∧ xs.length ≤ 1000 ∧ (xs = [] ∨ k = 1 → Q (.ref l) H) ∧ ∀ p, H p = none → Q (.ref p) (upd H p (.tup (List.replicate k.toNat xs).flatten))
theorem op_repA {X : Cx} : OpR X (binaryOp .Mult) (rRepA X.K) := by
  intro pins s σ H x y v u Q I rx ry ⟨l, k, xs, e1, e2, hT, h1, h2, hz, q1, q2⟩
  subst e1 e2
  by_cases hbig : xs ≠ [] ∧ 2 ≤ k
  · exact op_repT pins s σ H _ _ v u Q I rx ry ⟨l, k, xs, rfl, rfl, hT, hbig.1, hbig.2, h2, hz, q2⟩
  · cases rx
    obtain ⟨t, rfl⟩ := ry
    obtain ⟨its, r, ⟨⟨cls, dd, data, sl⟩, ho, hc, n, hd⟩, hs⟩ := I.tuple hT
    simp only at hc hd
    subst hc hd
    have hle : its.length = xs.length := r.length.symm
    have c0 : (decide (k < -(2 ^ 63)) || decide (k ≥ 2 ^ 63)) = false := by
      rw [decide_eq_false (by omega), decide_eq_false (by omega)]
      rfl
    have hem : its.toArray.isEmpty = decide (xs = []) := by
      cases xs with
      | nil => rw [List.eq_nil_of_length_eq_zero hle]; rfl
      | cons a b =>
        cases its with
        | nil => cases hle
        | cons c d => rfl
    by_cases hs1 : xs = [] ∨ k = 1
    · refine wpAny_binaryOp_repeat_ref (T := "tuple") (U := "int") (by decide) ⟨_, ho, rfl⟩ (fun s' => typeIs_int s' k t) noFill_tuple_mul F.fills_int_mul F.slot_int_rmul repeat_tuple F.slot_int_index.lookup
        (call_meets F.slot_int_rmul (typeIs_int s k t) F.entry_int_rmul (F.args_int_rmul_2 _ _) (int_rmul_tuple k t l its.toArray n dd sl)
          ⟨ho, rfl, ⟨_, ho, rfl⟩, call_meets F.slot_tuple_mul ⟨_, ho, rfl⟩ F.entry_tuple_mul (F.args_tuple_mul_2 _ _) (tup_mul_same l its.toArray n dd sl k t c0 ?_) ⟨ho, ?_⟩⟩)
      · rw [hem]
        rcases hs1 with z | z
        · simp [z]
        · simp [z]
      · exact ⟨.ref l, H, I, rfl, q1 hs1⟩
    · have n1 : xs ≠ [] := fun z => hs1 (.inl z)
      have n2 : k ≠ 1 := fun z => hs1 (.inr z)
      have n3 : k ≤ 0 := by
        by_cases z : 2 ≤ k
        · exact absurd ⟨n1, z⟩ hbig
        · omega
      refine wpAny_binaryOp_repeat_ref (T := "tuple") (U := "int") (by decide) ⟨_, ho, rfl⟩ (fun s' => typeIs_int s' k t) noFill_tuple_mul F.fills_int_mul F.slot_int_rmul repeat_tuple F.slot_int_index.lookup
        (call_meets F.slot_int_rmul (typeIs_int s k t) F.entry_int_rmul (F.args_int_rmul_2 _ _) (int_rmul_tuple k t l its.toArray n dd sl)
          ⟨ho, rfl, ⟨_, ho, rfl⟩, call_meets F.slot_tuple_mul ⟨_, ho, rfl⟩ F.entry_tuple_mul (F.args_tuple_mul_2 _ _) (tup_mul_none l its.toArray n dd sl k t c0 ?_ ?_) ⟨ho, ?_⟩⟩)
      · rw [hem, decide_eq_false n1]
        simpa using n2
      · rw [decide_eq_true n3]
        rfl
      · have e0 : (List.replicate k.toNat xs).flatten = [] := by
          rw [show k.toNat = 0 by omega]
          rfl
        have q2' := q2 _ (I.hok.fresh (Nat.le_refl s.heap.objs.size))
        rw [e0] at q2'
        refine ⟨.ref s.heap.objs.size, _, I.laid (t' := s.toks) (o := .tup []) (fun b ob q => Heap.get?_push_of_some _ q) (Nat.le_refl _) ?_, rfl, q2'⟩
        exact ⟨Nat.zero_le _, [], .nil, IsTup.new _ _⟩
end PyD
namespace PyD
open PySem PySem.Spec PyProof.Rows L2

/-! ### the small syntax -/
inductive Bo where
  | add | sub | mul | fdiv | mod | pow
inductive Co where
  | eq | ne | lt | le | gt | ge | isin | notin
inductive Bi where
  | len | isI | isB | isT | isL | isLT | isS | tuple | list | int | abs | max2 | min2 | maxL | minL | sum | all | any | gcd | lcm | repr | sorted | sortedSet | lenSet | divmod | str
/-- a target: a name, a tuple of names -/
inductive Tg where
  | nm (i : Nat)
  | tup (is : List Nat)
mutual
inductive Ex where
  | var (i : Nat)
  | cst (d : PyData)
  | glb (j : Nat)
  | bin (o : Bo) (a b : Ex)
  | neg (a : Ex)
  | nott (a : Ex)
  | ite (c : Te) (a b : Ex)
  | and (a b : Ex)
  | or (a b : Ex)
  | cmp (o : Co) (a b : Ex)
  | cmp2 (o o' : Co) (a b c : Ex)
  | isN (a : Ex)
  | notN (a : Ex)
  | tup (es : Exs)
  | lst (es : Exs)
  | dct
  | call (f : Nat) (es : Exs)
  | callk (f : Nat) (es ks : Exs) (pm : List Nat)
  | callL (i : Nat)
  | bi (b : Bi) (es : Exs)
  | idx (a i : Ex)
  | slc (a : Ex) (lo hi : Ox)
  | rev (a : Ex)
  | lc (tg : Tg) (it : It) (c : Ot) (e : Ex) (own : List (Str × Nat))
  | lrg (t : Bool) (a b : Ox)
  | heard (f i : Nat) (es : Exs)
  | heard1 (f : Nat) (e : Ex)
  | potCall (r p : Nat) (es : Exs)
inductive Te where
  | not (t : Te)
  | and (a b : Te)
  | or (a b : Te)
  | val (e : Ex)
inductive Exs where
  | nil
  | cons (e : Ex) (es : Exs)
inductive Ox where
  | no
  | so (e : Ex)
inductive Ot where
  | no
  | so (t : Te)
inductive It where
  | seq (e : Ex)
  | rng (a b : Ox)
  | zip (a b : Ex)
  | enum (e : Ex)
end
mutual
inductive Sm where
  | asg (tg : Tg) (e : Ex)
  | own (i : Nat) (e : Ex)
  | par (is : List (Nat × Bool)) (es : Exs)
  | app (i : Nat) (e : Ex)
  | extd (i : Nat) (e : Ex)
  | setI (i : Nat) (k e : Ex)
  | potS (i : Nat) (k : Bool) (e : Ex)
  | potD (i j : Nat) (a : Ex)
  | frz (i : Nat)
  | ife (c : Te) (a b : Sms)
  | for_ (tg : Tg) (it : It) (b : Sms)
  | whl (n : Nat) (c : Te) (b : Sms)
  | ret (e : Ox)
  | expr (e : Ex)
  | pass
  | brk
  | cnt
  | raise (c : Nat) (e : Ox)
  | aug (i : Nat) (o : Bo) (e : Ex)
  | tryV (b : Sms) (c i j : Nat) (t : Str)
  | lamNew (i k : Nat)
  | lamApp (i k : Nat)
inductive Sms where
  | nil
  | cons (s : Sm) (r : Sms)
end

/-! ### the globals -/
structure FnS where
  name : Str
  ps : List Str
  lv : Nat
  sem : List Val → Pot → Res Val
structure ClS where
  name : Str
  val : Bool
structure GT where
  fns : List FnS
  consts : List (Str × PyData)
  clss : List ClS
  frees : List Str
  bfs : List (Str × String)
  subs : List (Nat × Nat × Bool)

/-- is a raised class one of a clause's? -/
def subOf (G : GT) (c' c : Nat) : Option Bool := (G.subs.find? fun s => s.1 == c' && s.2.1 == c).map (·.2.2)
/-! ### the evaluator -/
/-- how an expression's value stands: clean; the very list of an own slot; a new list -/
inductive Kd where
  | cl | ow | fr
  deriving DecidableEq
def kd : PyData → Kd
  | .list _ => .fr
  | _ => .cl
@[inline] def Res.bind {α β : Type} : Res α → (α → Pot → Res β) → Res β
  | .ok a st, f => f a st
  | .exc c x st, _ => .exc c x st
  | .bad, _ => .bad
abbrev Ev := Res (Val × Kd)
def okD (d : PyData) (st : Pot) : Ev := .ok (.d d, .cl) st
def okK (d : Option PyData) (st : Pot) : Ev := match d with
  | some d => .ok (.d d, kd d) st
  | none => .bad
def okC (d : Option PyData) (st : Pot) : Ev := match d with
  | some d => .ok (.d d, .cl) st
  | none => .bad
def Res.bindD {β : Type} (r : Ev) (f : PyData → Pot → Res β) : Res β := r.bind fun v st => match v with
  | (.d d, _) => f d st
  | _ => .bad

def sz : Nat := 16777216
def fits (i : Int) : Bool := decide (i.natAbs.log2 < 100000)
def binD : Bo → PyData → PyData → Option PyData
  | .add, .int a, .int b => some (.int (a + b))
  | .add, .str a, .str b => if a.length + b.length ≤ sz then some (.str (a ++ b)) else none
  | .add, .list a, .list b => if a.length + b.length ≤ sz then some (.list (a ++ b)) else none
  | .add, .tuple a, .tuple b => if a.length + b.length ≤ sz then some (.tuple (a ++ b)) else none
  | .sub, .int a, .int b => some (.int (a - b))
  | .mul, .int a, .int b => if fits a && fits b then some (.int (a * b)) else none
  | .mul, .list a, .int b => if b ≤ 1000 ∧ -1000 ≤ b ∧ a.length ≤ 1000 then some (.list (List.replicate b.toNat a).flatten) else none
  | .mul, .tuple a, .int b => if b ≤ 1000 ∧ -1000 ≤ b ∧ a.length ≤ 1000 then some (.tuple (List.replicate b.toNat a).flatten) else none
  | .fdiv, .int a, .int b => if b ≠ 0 ∧ b.natAbs.log2 < 9000 then some (.int (a.fdiv b)) else none
  | .mod, .int a, .int b => if b ≠ 0 then some (.int (a.fmod b)) else none
  | .pow, .int a, .int b => if 0 ≤ b ∧ b ≤ 1000 ∧ a.natAbs < 2 ^ 64 then some (.int (a ^ b.toNat)) else none
  | _, _, _ => none
abbrev shp (d : PyData) : Bool := SeqAt.shaped d
def seqOf : PyData → Option (List PyData)
  | .list xs => some xs
  | .tuple xs => some xs
  | _ => none
def inD (x y : PyData) : Option Bool := match y with
  | .list ds => if shp x && shp (.list ds) then some (ds.any fun z => PyData.eqv z x) else none
  | .tuple ds => if shp x && shp (.tuple ds) then some (ds.any fun z => PyData.eqv z x) else none
  | _ => none
def cmpD : Co → PyData → PyData → Option Bool
  | .eq, x, y => if shp x && shp y then some (PyData.eqv x y) else none
  | .ne, x, y => if shp x && shp y then some (!PyData.eqv x y) else none
  | .lt, .int a, .int b => some (decide (a < b))
  | .le, .int a, .int b => some (decide (a ≤ b))
  | .gt, .int a, .int b => some (decide (b < a))
  | .ge, .int a, .int b => some (decide (b ≤ a))
  | .lt, .tuple a, .tuple b => if shp (.tuple a) && shp (.tuple b) && PySem.W.alike (.tuple a) (.tuple b) then some (PySem.W.dataLt (.tuple a) (.tuple b)) else none
  | .le, .tuple a, .tuple b => if shp (.tuple a) && shp (.tuple b) && PySem.W.alike (.tuple a) (.tuple b) then some (!PySem.W.dataLt (.tuple b) (.tuple a)) else none
  | .gt, .tuple a, .tuple b => if shp (.tuple a) && shp (.tuple b) && PySem.W.alike (.tuple a) (.tuple b) then some (PySem.W.dataLt (.tuple b) (.tuple a)) else none
  | .ge, .tuple a, .tuple b => if shp (.tuple a) && shp (.tuple b) && PySem.W.alike (.tuple a) (.tuple b) then some (!PySem.W.dataLt (.tuple a) (.tuple b)) else none
  | .isin, x, y => inD x y
  | .notin, x, y => (inD x y).map (!·)
  | _, _, _ => none
def nums : List PyData → Option (List Int)
  | [] => some []
  | .int i :: r => (nums r).map (i :: ·)
  | _ => none
def flags : List PyData → Option (List Bool)
  | [] => some []
  | .bool b :: r => (flags r).map (b :: ·)
  | _ => none
def tupP : PyData → Bool
  | .tuple (_ :: _) => true
  | _ => false
def othP : PyData → Bool
  | .none => false
  | .tuple _ => false
  | _ => true
/-- what sorted takes -/
def sortOk (ds : List PyData) : Bool := ds.all (fun d => ds.all fun e => PySem.W.alike d e) && (ds.all tupP || ds.all othP) && ds.all fun d => decide (d.depth ≤ 60)
def sortD (ds : List PyData) : Option (List PyData) := if sortOk ds then some (ds.mergeSort (PySem.W.dataLe false id)) else none
def dedup : List Int → List Int
  | [] => []
  | x :: r => if x ∈ r then dedup r else x :: dedup r
def insU (x : Int) : List Int → List Int
  | [] => [x]
  | y :: r => if x < y then x :: y :: r else if x = y then y :: r else y :: insU x r
/-- sorted, each once -/
def sset : List Int → List Int
  | [] => []
  | x :: r => insU x (sset r)
def biD : Bi → List PyData → Option PyData
  | .len, [.list xs] => some (.int xs.length)
  | .len, [.tuple xs] => some (.int xs.length)
  | .len, [.str x] => if x.length ≤ sz then some (.int x.length) else none
  | .isI, [.int _] => some (.bool true)
  | .isI, [.bool _] => some (.bool true)
  | .isI, [_] => some (.bool false)
  | .isB, [.bool _] => some (.bool true)
  | .isB, [_] => some (.bool false)
  | .isT, [.tuple _] => some (.bool true)
  | .isT, [_] => some (.bool false)
  | .isL, [.list _] => some (.bool true)
  | .isL, [_] => some (.bool false)
  | .isLT, [.list _] => some (.bool true)
  | .isLT, [.tuple _] => some (.bool true)
  | .isLT, [_] => some (.bool false)
  | .isS, [.str _] => some (.bool true)
  | .isS, [_] => some (.bool false)
  | .tuple, [.list xs] => some (.tuple xs)
  | .tuple, [.tuple xs] => some (.tuple xs)
  | .list, [.list xs] => some (.list xs)
  | .list, [.tuple xs] => some (.list xs)
  | .int, [.int i] => some (.int i)
  | .int, [.bool b] => some (.int (if b then 1 else 0))
  | .abs, [.int i] => some (.int (if i < 0 then -i else i))
  | .max2, [.int i, .int j] => some (.int (if j > i then j else i))
  | .min2, [.int i, .int j] => some (.int (if j < i then j else i))
  | .sum, [.list xs] => (nums xs).map fun ns => .int ns.sum
  | .all, [.list xs] => (flags xs).map fun bs => .bool (bs.all id)
  | .any, [.list xs] => (flags xs).map fun bs => .bool (bs.any id)
  | .gcd, [.int a, .int b] => some (.int (Nat.gcd a.natAbs b.natAbs))
  | .lcm, [.int a, .int b] => if a.natAbs.log2 < 9000 ∧ b.natAbs.log2 < 9000 then some (.int (Nat.lcm a.natAbs b.natAbs)) else none
  | .repr, [d] => if d.showable && (!d.hasDict) && decide (d.depth ≤ 60) && decide (d.shown.length ≤ sz) then some (.str d.shown) else match d with
    | .dict [] => some (.str d.shown)
    | _ => none
  | .sorted, [.list ds] => (sortD ds).map .list
  | .sortedSet, [.tuple ds] => (nums ds).bind fun ns => if ns.length < 64 then some (.list ((sset ns).map .int)) else none
  | .lenSet, [d] => (seqOf d).bind fun ds => (nums ds).map fun ns => .int (dedup ns).length
  | .divmod, [.int a, .int b] => if 0 < b ∧ b.natAbs.log2 < 9000 then some (.tuple [.int (a / b), .int (a % b)]) else none
  | _, _ => none
abbrev atD (n : Nat) (i : Int) : Option Nat := L2.ixN n i
def idxD : PyData → PyData → Option PyData
  | .list xs, .int i => (atD xs.length i).bind fun k => xs[k]?
  | .tuple xs, .int i => (atD xs.length i).bind fun k => xs[k]?
  | _, _ => none
/-- a slice's end -/
def cutP (n : Nat) (d : Nat) : Option PyData → Option Nat
  | none => some d
  | some (.int i) => some (if i < 0 then (i + n).toNat else min i.toNat n)
  | some _ => none
def cutD (xs : List PyData) (lo hi : Option PyData) : Option (List PyData) :=
  (cutP xs.length 0 lo).bind fun a => (cutP xs.length xs.length hi).map fun b => (xs.drop a).take (b - a)
def slcD (d : PyData) (lo hi : Option PyData) : Option PyData := match d with
  | .list xs => (cutD xs lo hi).map .list
  | .tuple xs => (cutD xs lo hi).map .tuple
  | _ => none
def revD : PyData → Option PyData
  | .list xs => some (.list xs.reverse)
  | .tuple xs => some (.tuple xs.reverse)
  | _ => none
def rgD (a b : Int) : List PyData := (List.range (b - a).toNat).map fun i => .int (a + (i : Nat))
def rgOk (a b : Int) : Bool := decide (-(2 ^ 40) ≤ a) && decide (a ≤ 2 ^ 40) && decide (-(2 ^ 40) ≤ b) && decide (b ≤ 2 ^ 40) && decide (b - a ≤ 16000000)
def bindT (t : Tg) (x : PyData) (ρ : List Sl) : Option (List Sl) := match t with
  | .nm i => some (ρ.set i (.v (.d x)))
  | .tup is => match x with
    | .tuple xs => if is.length = xs.length then some ((is.zip xs).foldl (fun ρ p => ρ.set p.1 (.v (.d p.2))) ρ) else none
    | _ => none
def bindT2 (t : Tg) (x : PyData) (ρ : List Sl) : Option (List Sl) := match t, x with
  | .tup is, .list xs => if is.length = xs.length then some ((is.zip xs).foldl (fun ρ p => ρ.set p.1 (.v (.d p.2))) ρ) else none
  | t, x => bindT t x ρ
/-- a block's frame: its own names forgotten, no function values -/
def wipeS (ρ : List Sl) : List Nat → List Sl
  | [] => ρ
  | v :: vs => (wipeS ρ vs).set v .un
def dropF : Sl → Sl
  | .v (.lam _) => .un
  | .v (.lams _) => .un
  | .lamL _ => .un
  | s => s
/-- a lambda's frame: the values that it may read -/
def dropL : Sl → Sl
  | .v (.d x) => .v (.d x)
  | .v .pot => .v .pot
  | _ => .un
def blkS (ρ : List Sl) (own : List Nat) : List Sl := wipeS (ρ.map dropF) own
/-- one turn after another -/
def compGo (turn : PyData → Pot → Res (Option PyData)) : List PyData → List PyData → Pot → Res (List PyData)
  | [], acc, st => .ok acc st
  | x :: r, acc, st => (turn x st).bind fun y st' => compGo turn r (match y with | some d => acc ++ [d] | none => acc) st'
def isNoneD : PyData → Bool
  | .none => true
  | _ => false
def noExc {α : Type} : Res α → Res α
  | .exc _ _ _ => .bad
  | r => r
def zipD : List PyData → List PyData → List PyData
  | x :: xs, y :: ys => .tuple [x, y] :: zipD xs ys
  | _, _ => []
def enumD : Nat → List PyData → List PyData
  | _, [] => []
  | i, x :: r => .tuple [.int (i : Nat), x] :: enumD (i + 1) r
def vals : List (Val × Kd) → List Val := List.map (·.1)
def isCl (p : Val × Kd) : Bool := match p with
  | (_, .ow) => false
  | _ => true
def dats : List Val → Option (List PyData)
  | [] => some []
  | .d x :: r => (dats r).map (x :: ·)
  | _ => none
def flatV : Val → Bool
  | .d x => flat x
  | _ => false
def flatX : Option PyData → Bool
  | none => true
  | some d => flat d
/-- only flat things leave -/
def flatR : Res Val → Ev
  | .ok v st => if flatV v then .ok (v, .cl) st else .bad
  | .exc c x st => if flatX x then .exc c x st else .bad
  | .bad => .bad
def callG (G : GT) (f : Nat) (as : List (Val × Kd)) (st : Pot) : Ev := match G.fns[f]? with
  | none => .bad
  | some F => if as.length = F.ps.length then (if as.all isCl then (F.sem (vals as) st).bind fun v st' => .ok (v, .cl) st' else flatR (F.sem (vals as) st)) else .bad
def permd (pm : List Nat) (as : List (Val × Kd)) : List (Val × Kd) := pm.filterMap fun i => as[i]?

/-- the items; whether they are a variable's own -/
def seqR (v : Val × Kd) (st : Pot) : Res (List PyData × Bool) := match v with
  | (.d x, k) => match seqOf x with
    | some xs => .ok (xs, k == .ow) st
    | none => .bad
  | _ => .bad
def rgR (x y : Option PyData) (st : Pot) : Res (Int × Int) := match x, y with
  | none, some (.int n) => if rgOk 0 n then .ok (0, n) st else .bad
  | some (.int m), some (.int n) => if rgOk m n then .ok (m, n) st else .bad
  | _, _ => .bad
def isPot (a : Ex) (ρ : List Sl) : Bool := match a with
  | .var k => match ρ[k]? with
    | some (.v .pot) => true
    | _ => false
  | _ => false
/-- what one lambda gives: its value's data -/
def lamOf (r : Ev) : Res PyData := r.bind fun v st => match v with
  | (.d d, .cl) => .ok d st
  | (.d d, .fr) => .ok d st
  | _ => .bad
/-- one lambda after the other is handed to the def f -/
def heardGo (G : GT) (f : Nat) (m : Nat → Lm) : List Nat → List PyData → Pot → Res (List PyData)
  | [], acc, st => .ok acc st
  | k :: ks, acc, st => (noExc (callG G f [(.lam (m k), .cl)] st)).bind fun v st' => match v with
    | (.d d, .cl) => heardGo G f m ks (acc ++ [d]) st'
    | _ => .bad
mutual
def ev (G : GT) : Ex → List Sl → Pot → Ev
  | .var i, ρ, st => match ρ[i]? with
    | some (.v x) => .ok (x, .cl) st
    | some (.own ds) => .ok (.d (.list ds), .ow) st
    | _ => .bad
  | .cst d, _, st => if flat d then okD d st else .bad
  | .glb j, _, st => match G.consts[j]? with
    | some (_, d) => okD d st
    | none => .bad
  | .bin o a b, ρ, st => (ev G a ρ st).bindD fun x st => (ev G b ρ st).bindD fun y st => okK (binD o x y) st
  | .neg a, ρ, st => (ev G a ρ st).bindD fun x st => match x with
    | .int i => okD (.int (-i)) st
    | _ => .bad
  | .nott a, ρ, st => (ev G a ρ st).bindD fun x st => match x with
    | .bool b => okD (.bool (!b)) st
    | _ => .bad
  | .ite c a b, ρ, st => (evT G c ρ st).bind fun k st => match k with
    | true => ev G a ρ st
    | false => ev G b ρ st
  | .and a b, ρ, st => (ev G a ρ st).bindD fun x st => match x with
    | .bool true => ev G b ρ st
    | .bool false => okD (.bool false) st
    | _ => .bad
  | .or a b, ρ, st => (ev G a ρ st).bindD fun x st => match x with
    | .bool false => ev G b ρ st
    | .bool true => okD (.bool true) st
    | _ => .bad
  | .cmp o a b, ρ, st => (ev G a ρ st).bindD fun x st => (ev G b ρ st).bindD fun y st => okC ((cmpD o x y).map .bool) st
  | .cmp2 o o' a b c, ρ, st => (ev G a ρ st).bindD fun x st => (ev G b ρ st).bindD fun y st => match cmpD o x y with
    | some true => (ev G c ρ st).bindD fun z st => okC ((cmpD o' y z).map .bool) st
    | some false => okD (.bool false) st
    | none => .bad
  | .isN a, ρ, st => (ev G a ρ st).bindD fun x st => okD (.bool (isNoneD x)) st
  | .notN a, ρ, st => (ev G a ρ st).bindD fun x st => okD (.bool (!isNoneD x)) st
  | .tup es, ρ, st => (evs G es ρ st).bind fun as st => if as.all isCl && decide (as.length ≤ 1000) then okC ((dats (vals as)).map .tuple) st else .bad
  | .lst es, ρ, st => (evs G es ρ st).bind fun as st => if as.all isCl && decide (as.length ≤ 1000) then okK ((dats (vals as)).map .list) st else .bad
  | .dct, _, st => okD (.dict []) st
  | .call f es, ρ, st => (evs G es ρ st).bind fun as st => callG G f as st
  | .callk f es ks pm, ρ, st => (evs G es ρ st).bind fun as st => (evs G ks ρ st).bind fun bs st => callG G f (permd pm (as ++ bs)) st
  | .callL i, ρ, st => match ρ[i]? with
    | some (.v (.lam m)) => (m st).bind fun d st => okD d st
    | _ => .bad
  | .bi b es, ρ, st => (evs G es ρ st).bind fun as st => okK ((dats (vals as)).bind (biD b)) st
  | .idx a i, ρ, st => if isPot a ρ then (ev G i ρ st).bindD fun y st => match y with
        | .int 0 => okD (.int st.1) st
        | .int 1 => okD (.int st.2) st
        | _ => .bad
      else (ev G a ρ st).bindD fun x st => (ev G i ρ st).bindD fun y st => okC (idxD x y) st
  | .slc a lo hi, ρ, st => (ev G a ρ st).bindD fun x st => (evO G lo ρ st).bind fun l st => (evO G hi ρ st).bind fun h st => okK (slcD x l h) st
  | .rev a, ρ, st => (ev G a ρ st).bindD fun x st => okK (revD x) st
  | .lc tg it c e own, ρ, st => (evI G it ρ st).bind fun r st =>
      (compGo (fun x st => match bindT tg x (blkS ρ (own.map (·.2))) with
        | none => .bad
        | some ρ1 => noExc ((evOt G c ρ1 st).bind fun k st => match k with
          | true => (ev G e ρ1 st).bind fun v st => match v with
            | (.d d, .cl) => .ok (some d) st
            | (.d d, .fr) => .ok (some d) st
            | _ => .bad
          | false => .ok none st)) r.1 [] st).bind fun ds st => okK (some (.list ds)) st
  | .lrg t a b, ρ, st => (evO G a ρ st).bind fun x st => (evO G b ρ st).bind fun y st => (rgR x y st).bind fun r st => okK (some (if t then .tuple (rgD r.1 r.2) else .list (rgD r.1 r.2))) st
  | .heard f i es, ρ, st => match ρ[i]? with
    | some (.lamL ks) => (heardGo G f (fun k st => lamOf (evNth G es k (ρ.map dropL) st)) ks [] st).bind fun ds st => okK (some (.list ds)) st
    | _ => .bad
  | .heard1 f e, ρ, st => (noExc (callG G f [(.lam (fun st => lamOf (ev G e (ρ.map dropL) st)), .cl)] st)).bind fun v st' => match v with
    | (.d d, .cl) => okD d st'
    | _ => .bad
  | .potCall r p es, ρ, st => (evs G es ρ st).bind fun as st => match G.fns[p]?, G.fns[r]? with
    | some P, some R => if as.all isCl = true ∧ as.length = P.ps.length ∧ R.ps.length = 1 ∧ (dats (vals as)).isSome = true then
        match P.sem (vals as) st with
        | .ok (.d (.list [.int x, .int y])) _ => match R.sem [.pot] (x, y) with
          | .ok (.d d) _ => okD d st
          | _ => .bad
        | _ => .bad
      else .bad
    | _, _ => .bad
def evNth (G : GT) : Exs → Nat → List Sl → Pot → Ev
  | .nil, _, _, _ => .bad
  | .cons e _, 0, ρ, st => ev G e ρ st
  | .cons _ es, k + 1, ρ, st => evNth G es k ρ st
def evT (G : GT) : Te → List Sl → Pot → Res Bool
  | .not t, ρ, st => (evT G t ρ st).bind fun b st => .ok (!b) st
  | .and a b, ρ, st => (evT G a ρ st).bind fun k st => match k with
    | true => evT G b ρ st
    | false => .ok false st
  | .or a b, ρ, st => (evT G a ρ st).bind fun k st => match k with
    | true => .ok true st
    | false => evT G b ρ st
  | .val e, ρ, st => (ev G e ρ st).bindD fun x st => match x with
    | .bool b => .ok b st
    | _ => .bad
def evs (G : GT) : Exs → List Sl → Pot → Res (List (Val × Kd))
  | .nil, _, st => .ok [] st
  | .cons e es, ρ, st => (ev G e ρ st).bind fun v st => (evs G es ρ st).bind fun vs st => .ok (v :: vs) st
def evO (G : GT) : Ox → List Sl → Pot → Res (Option PyData)
  | .no, _, st => .ok none st
  | .so e, ρ, st => (ev G e ρ st).bindD fun x st => match x with
    | .int i => .ok (some (.int i)) st
    | _ => .bad
def evOt (G : GT) : Ot → List Sl → Pot → Res Bool
  | .no, _, st => .ok true st
  | .so t, ρ, st => evT G t ρ st
def evI (G : GT) : It → List Sl → Pot → Res (List PyData × Bool)
  | .seq e, ρ, st => (ev G e ρ st).bind fun v st => seqR v st
  | .rng a b, ρ, st => (evO G a ρ st).bind fun x st => (evO G b ρ st).bind fun y st => (rgR x y st).bind fun r st => .ok (rgD r.1 r.2, false) st
  | .zip a b, ρ, st => (ev G a ρ st).bind fun x st => (ev G b ρ st).bind fun y st => (seqR x st).bind fun x st => (seqR y st).bind fun y st => .ok (zipD x.1 y.1, x.2 || y.2) st
  | .enum e, ρ, st => (ev G e ρ st).bind fun v st => (seqR v st).bind fun x st => .ok (enumD 0 x.1, x.2) st
end
end PyD
namespace PyD
open PySem PySem.Spec PyProof.Rows L2
inductive Fl where
  | nx (ρ : List Sl)
  | ret (v : Val)
  | brk (ρ : List Sl)
  | ct (ρ : List Sl)
def forGo (turn : PyData → List Sl → Pot → Res Fl) : List PyData → List Sl → Pot → Res Fl
  | [], ρ, st => .ok (.nx ρ) st
  | x :: r, ρ, st => (turn x ρ st).bind fun f st => match f with
    | .nx ρ => forGo turn r ρ st
    | .ct ρ => forGo turn r ρ st
    | .brk ρ => .ok (.nx ρ) st
    | .ret v => .ok (.ret v) st
def whlGo (test : List Sl → Pot → Res Bool) (turn : List Sl → Pot → Res Fl) : Nat → List Sl → Pot → Res Fl
  | 0, _, _ => .bad
  | n + 1, ρ, st => (test ρ st).bind fun b st => match b with
    | false => .ok (.nx ρ) st
    | true => (turn ρ st).bind fun f st => match f with
      | .nx ρ => whlGo test turn n ρ st
      | .ct ρ => whlGo test turn n ρ st
      | .brk ρ => .ok (.nx ρ) st
      | .ret v => .ok (.ret v) st
def parGo : List (Nat × Bool) → List (Val × Kd) → List Sl → Option (List Sl)
  | [], [], ρ => some ρ
  | (i, false) :: r, (v, .cl) :: s, ρ => parGo r s (ρ.set i (.v v))
  | (i, false) :: r, (v, .fr) :: s, ρ => parGo r s (ρ.set i (.v v))
  | (i, true) :: r, (.d (.list ds), .fr) :: s, ρ => parGo r s (ρ.set i (.own ds))
  | _, _, _ => none
def frzS (ρ : List Sl) (i : Nat) : List Sl := match ρ[i]? with
  | some (.own ds) => ρ.set i (.v (.d (.list ds)))
  | _ => ρ
mutual
def ex (G : GT) : Sm → List Sl → Pot → Res Fl
  | .asg tg e, ρ, st => (ev G e ρ st).bind fun v st => match tg, v with
    | _, (_, .ow) => .bad
    | .nm i, (v, _) => .ok (.nx (ρ.set i (.v v))) st
    | .tup is, (.d x, _) => match bindT (.tup is) x ρ with
      | some ρ => .ok (.nx ρ) st
      | none => .bad
    | _, _ => .bad
  | .own i e, ρ, st => (ev G e ρ st).bind fun v st => match v with
    | (.d (.list ds), .fr) => .ok (.nx (ρ.set i (.own ds))) st
    | _ => .bad
  | .par is es, ρ, st => (evs G es ρ st).bind fun vs st => match parGo is vs ρ with
    | some ρ => .ok (.nx ρ) st
    | none => .bad
  | .app i e, ρ, st => match ρ[i]? with
    | some (.own ds) => (ev G e ρ st).bind fun v st => match v with
      | (_, .ow) => .bad
      | (.d d, _) => if ds.length < sz then .ok (.nx (ρ.set i (.own (ds ++ [d])))) st else .bad
      | _ => .bad
    | _ => .bad
  | .extd i e, ρ, st => match ρ[i]? with
    | some (.own ds) => (ev G e ρ st).bind fun v st => match v with
      | (_, .ow) => .bad
      | (.d (.list es), _) => if ds.length + es.length ≤ sz then .ok (.nx (ρ.set i (.own (ds ++ es)))) st else .bad
      | _ => .bad
    | _ => .bad
  | .setI i k e, ρ, st => (ev G e ρ st).bind fun v st => match ρ[i]? with
    | some (.own ds) => (ev G k ρ st).bindD fun y st => match v, y with
      | (_, .ow), _ => .bad
      | (.d x, _), .int j => match atD ds.length j with
        | some n => .ok (.nx (ρ.set i (.own (ds.set n x)))) st
        | none => .bad
      | _, _ => .bad
    | _ => .bad
  | .potS i k e, ρ, st => (ev G e ρ st).bindD fun x st => match ρ[i]?, x with
    | some (.v .pot), .int n => .ok (.nx ρ) (if k then (st.1, n) else (n, st.2))
    | _, _ => .bad
  | .potD i j a, ρ, st => (ev G a ρ st).bindD fun x st => match ρ[i]?, x with
    | some (.v .pot), .tuple [.int q, .int r] => .ok (.nx (ρ.set j (.v (.d (.int r))))) (q, st.2)
    | _, _ => .bad
  | .frz i, ρ, st => .ok (.nx (frzS ρ i)) st
  | .ife c a b, ρ, st => (evT G c ρ st).bind fun k st => match k with
    | true => exs G a ρ st
    | false => exs G b ρ st
  | .for_ tg it b, ρ, st => (evI G it ρ st).bind fun r st => if r.2 then .bad else forGo (fun x ρ st => match bindT tg x ρ with
      | some ρ => exs G b ρ st
      | none => .bad) r.1 ρ st
  | .whl n c b, ρ, st => whlGo (fun ρ st => evT G c ρ st) (fun ρ st => exs G b ρ st) n ρ st
  | .ret .no, _, st => .ok (.ret (.d .none)) st
  | .ret (.so e), ρ, st => (ev G e ρ st).bind fun v st => .ok (.ret v.1) st
  | .expr e, ρ, st => (ev G e ρ st).bind fun _ st => .ok (.nx ρ) st
  | .pass, ρ, st => .ok (.nx ρ) st
  | .brk, ρ, st => .ok (.brk ρ) st
  | .cnt, ρ, st => .ok (.ct ρ) st
  | .raise c .no, _, st => .exc c none st
  | .raise c (.so e), ρ, st => (ev G e ρ st).bind fun v st => match v with
    | (_, .ow) => .bad
    | (.d x, _) => .exc c (some x) st
    | _ => .bad
  | .aug i o e, ρ, st => match ρ[i]? with
    | some (.v (.d x)) => (ev G e ρ st).bindD fun y st => match binD o x y with
      | some z => if flat z then .ok (.nx (ρ.set i (.v (.d z)))) st else .bad
      | none => .bad
    | _ => .bad
  | .lamNew i k, ρ, st => .ok (.nx (ρ.set i (.lamL [k]))) st
  | .lamApp i k, ρ, st => match ρ[i]? with
    | some (.lamL ks) => if ks.length < 1000 then .ok (.nx (ρ.set i (.lamL (ks ++ [k])))) st else .bad
    | _ => .bad
  | .tryV b c _ j t, ρ, st => match exs G b ρ st with
    | .ok f st => .ok f st
    | .exc c' x st' => match subOf G c' c with
      | some true => match x with
        | some d => match biD .repr [d] with
          | some (.str z) => .ok (.nx ((List.replicate ρ.length Sl.un).set j (.v (.d (.list [.str t, .str z]))))) st'
          | _ => .bad
        | none => .bad
      | some false => .exc c' x st'
      | none => .bad
    | .bad => .bad
def exs (G : GT) : Sms → List Sl → Pot → Res Fl
  | .nil, ρ, st => .ok (.nx ρ) st
  | .cons s r, ρ, st => (ex G s ρ st).bind fun f st => match f with
    | .nx ρ => exs G r ρ st
    | f => .ok f st
end
/-- a def, called -/
def run (G : GT) (n : Nat) (b : Sms) (as : List Val) (st : Pot) : Res Val :=
  (exs G b (as.map Sl.v ++ List.replicate (n - as.length) .un) st).bind fun f st => match f with
    | .nx _ => .ok (.d .none) st
    | .ret v => .ok v st
    | _ => .bad
example : ev ⟨[], [], [], [], [], []⟩ (.bin .add (.cst (.int 1)) (.cst (.int 2))) [] (0,0) = .ok (.d (.int 3), .cl) (0,0) := rfl
example (i : Int) : run ⟨[], [], [], [], [], []⟩ 2 (.cons (.asg (.nm 1) (.bin .add (.var 0) (.cst (.int 2)))) (.cons (.ret (.so (.var 1))) .nil)) [.d (.int i)] (0,0) = .ok (.d (.int (i+2))) (0,0) := rfl
end PyD
namespace PyD
open PySem PySem.Spec PyProof.Rows L2

/-- what values are read by: the written part, the pot's address, what may be called -/
structure Ls where
  l : Addr → Lm → Prop
  lo : Obj → Addr → Str → Nat → Prop
structure Rc where
  K : PySem.W.Frag
  p : Option Addr
  L : Ls
inductive LamsR (L : Addr → Lm → Prop) : List V → List Lm → Prop
  | nil : LamsR L [] []
  | cons {f : Addr} {m : Lm} {vs : List V} {ms : List Lm} : L f m → LamsR L vs ms → LamsR L (.ref f :: vs) (m :: ms)
def VR (R : Rc) (Fz : Addr → Prop) (H : Hp) (w : V) : Val → Prop
  | .d x => Rp R.K Fz H w x
  | .pot => ∃ q, R.p = some q ∧ w = .ref q
  | .lam m => ∃ f, w = .ref f ∧ R.L.l f m
  | .lams ms => ∃ a vs, w = .ref a ∧ H a = some (.lst vs) ∧ Fz a ∧ LamsR R.L.l vs ms
inductive VRs (R : Rc) (Fz : Addr → Prop) (H : Hp) : List V → List Val → Prop
  | nil : VRs R Fz H [] []
  | cons {v : V} {vs : List V} {x : Val} {xs : List Val} : VR R Fz H v x → VRs R Fz H vs xs → VRs R Fz H (v :: vs) (x :: xs)
theorem VR.move {R : Rc} {Fz Fz' : Addr → Prop} {H H' : Hp} {w : V} (f : ∀ a, Fz a → Fz' a) (k : ∀ a o, Fz a → H a = some o → H' a = some o) : ∀ {x : Val}, VR R Fz H w x → VR R Fz' H' w x
  | .d _, h => Rp.move f k h
  | .pot, h => h
  | .lam _, h => h
  | .lams _, ⟨a, vs, e, h, z, l⟩ => ⟨a, vs, e, k _ _ z h, f _ z, l⟩
theorem VRs.length {R : Rc} {Fz : Addr → Prop} {H : Hp} : ∀ {vs : List V} {xs : List Val}, VRs R Fz H vs xs → vs.length = xs.length
  | _, _, .nil => rfl
  | _, _, .cons _ t => by rw [List.length_cons, List.length_cons, t.length]
theorem VRs.move {R : Rc} {Fz Fz' : Addr → Prop} {H H' : Hp} (f : ∀ a, Fz a → Fz' a) (k : ∀ a o, Fz a → H a = some o → H' a = some o) : ∀ {vs : List V} {xs : List Val}, VRs R Fz H vs xs → VRs R Fz' H' vs xs
  | _, _, .nil => .nil
  | _, _, .cons q t => .cons (q.move f k) (t.move f k)
/-- what is frozen stays, over an extension -/
theorem Ext.kf {T : Tb} {p : Option Addr} {Fz Fz' : Addr → Prop} {H H' : Hp} {st : Pot} (e : Ext p Fz H Fz' H') (s : Sit T p Fz H st) : ∀ a o, Fz a → H a = some o → H' a = some o := fun a o z h => by
  obtain ⟨o', h', nt⟩ := s.fz a z
  rw [h] at h'
  cases h'
  refine e.keep a o h (fun q => ?_) nt
  exact (s.pot a q).2 z

/-- the very object stands at f -/
def ObjO (f : Addr) (o : Obj) : HO := .ext fun h => h.get? f = some o
/-- a list of lambdas, by their numbers -/
inductive LamVs (lo : Obj → Addr → Str → Nat → Prop) (p : Option Addr) (H : Hp) : List V → List Nat → Prop
  | nil : LamVs lo p H [] []
  | cons {f c : Addr} {o : Obj} {q : Str} {k : Nat} {vs : List V} {ks : List Nat} : lo o c q k → H f = some (ObjO f o) → p ≠ some f → H c = some (LamX.CodeO c q) → p ≠ some c → LamVs lo p H vs ks → LamVs lo p H (.ref f :: vs) (k :: ks)
theorem LamVs.move {lo : Obj → Addr → Str → Nat → Prop} {p : Option Addr} {H H' : Hp} (k : ∀ a φ, H a = some (.ext φ) → p ≠ some a → H' a = some (.ext φ)) : ∀ {vs : List V} {ks : List Nat}, LamVs lo p H vs ks → LamVs lo p H' vs ks
  | _, _, .nil => .nil
  | _, _, .cons a b n c m t => .cons a (k _ _ b n) n (k _ _ c m) m (t.move k)
/-- a frame's slots -/
structure ER (R : Rc) (Fz : Addr → Prop) (H : Hp) (σ : L2.St) (ρ : List Sl) : Prop where
  len : σ.length = ρ.length
  val : ∀ (i : Nat) (x : Val), ρ[i]? = some (Sl.v x) → ∃ w, σ[i]? = some (some w) ∧ VR R Fz H w x
  own : ∀ (i : Nat) (ds : List PyData), ρ[i]? = some (Sl.own ds) → ∃ a vs, σ[i]? = some (some (V.ref a)) ∧ H a = some (.lst vs) ∧ ¬ Fz a ∧ R.p ≠ some a ∧ Rps R.K Fz H vs ds
  sep : ∀ (i j : Nat) (ds es : List PyData) (a : Addr), ρ[i]? = some (Sl.own ds) → ρ[j]? = some (Sl.own es) → σ[i]? = some (some (V.ref a)) → σ[j]? = some (some (V.ref a)) → i = j
  lam : ∀ (i : Nat) (ks : List Nat), ρ[i]? = some (Sl.lamL ks) → ∃ a vs, σ[i]? = some (some (V.ref a)) ∧ H a = some (.lst vs) ∧ ¬ Fz a ∧ R.p ≠ some a ∧ LamVs R.L.lo R.p H vs ks
  lsep : ∀ (i j : Nat) (ks : List Nat) (a : Addr), ρ[i]? = some (Sl.lamL ks) → σ[i]? = some (some (V.ref a)) → σ[j]? = some (some (V.ref a)) → (∃ ds, ρ[j]? = some (Sl.own ds)) ∨ (∃ ls, ρ[j]? = some (Sl.lamL ls)) → i = j
theorem ER.ext {R : Rc} {T : Tb} {Fz Fz' : Addr → Prop} {H H' : Hp} {σ : L2.St} {ρ : List Sl} {st : Pot} (r : ER R Fz H σ ρ) (s : Sit T R.p Fz H st) (e : Ext R.p Fz H Fz' H') : ER R Fz' H' σ ρ := by
  refine ⟨r.len, fun i x h => ?_, fun i ds h => ?_, r.sep, fun i ks h => ?_, r.lsep⟩
  · obtain ⟨w, h1, h2⟩ := r.val i x h
    exact ⟨w, h1, h2.move e.fz (e.kf s)⟩
  · obtain ⟨a, vs, h1, h2, h3, h4, h5⟩ := r.own i ds h
    refine ⟨a, vs, h1, e.keep a _ h2 h4 (fun ps z => by cases z), fun z => ?_, h4, h5.move e.fz (e.kf s)⟩
    rcases e.new a z with z | z
    · exact h3 z
    · rw [h2] at z; cases z
  · obtain ⟨a, vs, h1, h2, h3, h4, h5⟩ := r.lam i ks h
    refine ⟨a, vs, h1, e.keep a _ h2 h4 (fun ps z => by cases z), fun z => ?_, h4, h5.move fun b φ q n => e.keep b _ q n (fun ps z => by cases z)⟩
    rcases e.new a z with z | z
    · exact h3 z
    · rw [h2] at z; cases z

/-- an expression's value: as its kind tells; H0 the heap ahead -/
def VT (R : Rc) (H0 : Hp) (Fz : Addr → Prop) (H : Hp) (σ : L2.St) (ρ : List Sl) (w : V) (x : Val) : Kd → Prop
  | .cl => VR R Fz H w x
  | .ow => ∃ (i : Nat) (ds : List PyData), ρ[i]? = some (Sl.own ds) ∧ σ[i]? = some (some w) ∧ x = .d (.list ds)
  | .fr => ∃ a vs ds, w = .ref a ∧ x = .d (.list ds) ∧ H a = some (.lst vs) ∧ ¬ Fz a ∧ R.p ≠ some a ∧ H0 a = none ∧ Rps R.K Fz H vs ds

/-- the exception of a class, with what it carries -/
def XR (K : PySem.W.Frag) (mg : Str → Option Value) (cs : List ClS) (Fz : Addr → Prop) (H : Hp) (c : Nat) (x : Option PyData) (cls : Value) (dd : Option Addr) : Prop :=
  ∃ C a, cs[c]? = some C ∧ mg C.name = some (.ref a) ∧ cls = .ref a ∧ match x with
    | none => dd = none
    | some d => ∃ b w, dd = some b ∧ H b = some (.xd [(Str.ofString "value", w)]) ∧ Rp K Fz H w d

/-- what a call gives -/
def OutF (R : Rc) (T : Tb) (mg : Str → Option Value) (cs : List ClS) (Fz : Addr → Prop) (H : Hp) (r : Res Val) (Q : VK) (E : XK) : Prop := match r with
  | .ok v st => ∀ Fz' H' w, Ext R.p Fz H Fz' H' → Sit T R.p Fz' H' st → VR R Fz' H' w v → Q w H'
  | .exc c x st => ∀ Fz' H' cls dd, Ext R.p Fz H Fz' H' → Sit T R.p Fz' H' st → XR R.K mg cs Fz' H' c x cls dd → E cls dd H'
  | .bad => False

structure RoomG (k : Nat) (A : Around) : Prop where
  r : Room k A
  g : A.guards = some []
theorem RoomG.mono {j k : Nat} {A : Around} (r : RoomG k A) (h : j ≤ k) : RoomG j A := ⟨r.r.mono h, r.g⟩
theorem RoomG.deeper {k : Nat} {A : Around} (r : RoomG (k + 1) A) (env : Env) : RoomG k (A.deeper env) := ⟨r.r.deeper env, by have := r.g; exact this⟩

/-- a function object stands at f -/
def FunO (f : Addr) : HO := .ext fun h => ∃ o fd, h.get? f = some o ∧ o.data = .func fd
/-- what may be called in the state s: from every state behind it -/
def LamAt (P : Program) (w : World) (K : PySem.W.Frag) (mg : Str → Option Value) (base : Heap) (cs : List ClS) (T : List (Addr × Str)) (p : Option Addr) (lv : Nat) (outer : List Env) (s : Shared) (H : Hp) (Fz0 : Addr → Prop) (f : Addr) (m : Lm) : Prop :=
  ((∃ φ, H f = some (.ext φ) ∧ ∀ h, φ h → ∃ o fd, h.get? f = some o ∧ o.data = .func fd) ∧ p ≠ some f) ∧
  ∀ (A : Around) (outer' : List Env) (s1 : Shared) (H1 : Hp) (Fz : Addr → Prop) (st : Pot) (L : Ls) (Q : VK) (E : XK), RoomG lv A → Env0 P w K mg base A outer' s1 H1 → Un (frs outer) [] H H1 s.heap s1.heap →
    (∀ a o, H a = some o → p ≠ some a → (∀ ps, o ≠ .tbl ps) → H1 a = some o) → (∀ a, Fz0 a → Fz a) → Sit ⟨T, H1, Fz⟩ p Fz H1 st →
    OutF ⟨K, p, L⟩ ⟨T, H1, Fz⟩ mg cs Fz H1 ((m st).bind fun d st => .ok (.d d) st) Q E →
    codeAny (model P w) A (.call (.ref f) ⟨[], []⟩) (CR (L2.CX P w) outer' P w H1 s1 Q E) s1

/-- a def keeps what its function says -/
def FnG (P : Program) (w : World) (K : PySem.W.Frag) (mg : Str → Option Value) (base : Heap) (cs : List ClS) (T : List (Addr × Str)) (lvL : Nat) (k : Nat) (f : Addr) (fd : FuncData) (ps : List Str) (sem : List Val → Pot → Res Val) : Prop :=
  ∀ (A : Around) (outer : List Env) (s : Shared) (H : Hp) (args : Args) (us : List Value) (vs : List V) (Q : VK) (E : XK) (p : Option Addr) (L : Ls) (Fz : Addr → Prop) (xs : List Val) (st : Pot),
    RoomG k A → Env0 P w K mg base A outer s H → BindsTo s fd args (ps.zip us) → Vals vs us → vs.length = ps.length →
    (∀ f m, L.l f m → LamAt P w K mg base cs T p lvL outer s H Fz f m) → Sit ⟨T, H, Fz⟩ p Fz H st → VRs ⟨K, p, L⟩ Fz H vs xs → OutF ⟨K, p, L⟩ ⟨T, H, Fz⟩ mg cs Fz H (sem xs st) Q E →
    codeAny (model P w) A (.call (.ref f) args) (CR (L2.CX P w) outer P w H s Q E) s

/-- no defaults, no stars -/
def PlainFd (fd : FuncData) (ps : List Str) : Prop := fd.params.posonlyargs = [] ∧ fd.params.args.map (·.arg) = ps ∧ fd.params.vararg = none ∧ fd.params.kwonlyargs = [] ∧ fd.params.kwarg = none ∧ fd.defaults = .none ∧ ps.Nodup
end PyD
namespace PyD
open PySem PySem.Spec PyProof.Rows L2
section
variable {K : PySem.W.Frag} {p : Option Addr} {L : Ls} {T : Tb} {Fz : Addr → Prop} {H : Hp} {st : Pot} {σ : L2.St} {ρ : List Sl}
/-! ### what is new -/
theorem Sit.nofz (s : Sit T p Fz H st) {a : Addr} (h : H a = none) : ¬ Fz a := fun z => by
  obtain ⟨o, e, _⟩ := s.fz a z
  rw [h] at e; cases e
theorem Sit.nop (s : Sit T p Fz H st) {a : Addr} (h : H a = none) : p ≠ some a := fun z => by
  have e := (s.pot a z).1
  rw [h] at e; cases e
theorem Ext.upd {a : Addr} {o : HO} (h : H a = none) : Ext p Fz H Fz (upd H a o) :=
  ⟨fun _ z => z, fun b u e _ _ => by rw [upd_ne (ne_of_none e h)]; exact e, fun _ z => .inl z, fun b u e => ⟨u, by rw [upd_ne (ne_of_none e h)]; exact e⟩⟩
theorem Ext.updF {a : Addr} {o : HO} (h : H a = none) : Ext p Fz H (fun b => Fz b ∨ b = a) (L2.upd H a o) :=
  ⟨fun _ z => .inl z, (Ext.upd (p := p) (Fz := Fz) h).keep, fun b z => z.imp id (fun e => by rw [e]; exact h), (Ext.upd (p := p) (Fz := Fz) h).there⟩
theorem Sit.upd (s : Sit T p Fz H st) {a : Addr} {o : HO} (h : H a = none) : Sit T p Fz (L2.upd H a o) st := by
  refine ⟨fun q e => ?_, fun b z => ?_, s.tabs.ext (fun b u e => by rw [upd_ne (ne_of_none e h)]; exact e), fun b u e n t => by have e := s.ent b u e n t; rw [upd_ne (ne_of_none e h)]; exact e, fun b u e => let ⟨o', e'⟩ := s.pres b u e; ⟨o', by rw [upd_ne (ne_of_none e' h)]; exact e'⟩, s.fe⟩
  · obtain ⟨h1, h2⟩ := s.pot q e
    exact ⟨by rw [upd_ne (ne_of_none h1 h)]; exact h1, h2⟩
  · obtain ⟨u, e, nt⟩ := s.fz b z
    exact ⟨u, by rw [upd_ne (ne_of_none e h)]; exact e, nt⟩
theorem Sit.updF (s : Sit T p Fz H st) {a : Addr} {o : HO} (h : H a = none) (nt : ∀ ps, o ≠ .tbl ps) : Sit T p (fun b => Fz b ∨ b = a) (L2.upd H a o) st := by
  refine ⟨fun q e => ?_, fun b z => ?_, (s.upd h).tabs, (s.upd h).ent, (s.upd h).pres, fun a z => .inl (s.fe a z)⟩
  · obtain ⟨h1, h2⟩ := (s.upd (o := o) h).pot q e
    refine ⟨h1, fun z => z.elim h2 fun e' => ?_⟩
    exact s.nop h (by rw [e, e'])
  · rcases z with z | z
    · exact (s.upd h).fz b z
    · exact ⟨o, by rw [z]; exact upd_same, nt⟩

/-- what is wanted of an expression's data -/
def Done (K : PySem.W.Frag) (p : Option Addr) (L : Ls) (T : Tb) (Fz : Addr → Prop) (H : Hp) (σ : L2.St) (ρ : List Sl) (st : Pot) (Q : VK) (x : Val) (k : Kd) : Prop :=
  ∀ Fz' H' w, Ext p Fz H Fz' H' → Sit T p Fz' H' st → VT ⟨K, p, L⟩ H Fz' H' σ ρ w x k → Q w H'
theorem Done.flat {Q : VK} {d : PyData} {w : V} (s : Sit T p Fz H st) (h : Done K p L T Fz H σ ρ st Q (.d d) .cl) (r : Rp K Fz H w d) : Q w H := h Fz H w Ext.refl s r
theorem Done.lst {Q : VK} {ds : List PyData} {vs : List V} {a : Addr} (s : Sit T p Fz H st) (h : Done K p L T Fz H σ ρ st Q (.d (.list ds)) .fr) (ha : H a = none) (r : Rps K Fz H vs ds) : Q (.ref a) (L2.upd H a (.lst vs)) :=
  h Fz _ (.ref a) (Ext.upd ha) (s.upd ha) ⟨a, vs, ds, rfl, rfl, upd_same, s.nofz ha, s.nop ha, ha, r.move (fun _ z => z) fun b o _ e => by rw [upd_ne (ne_of_none e ha)]; exact e⟩
theorem Done.tup {Q : VK} {ds : List PyData} {vs : List V} {a : Addr} (s : Sit T p Fz H st) (h : Done K p L T Fz H σ ρ st Q (.d (.tuple ds)) .cl) (ha : H a = none) (r : Rps K Fz H vs ds) : Q (.ref a) (L2.upd H a (.tup vs)) :=
  h _ _ (.ref a) (Ext.updF ha) (s.updF ha fun ps z => by cases z) (Rp.tup (.inl ⟨.inl upd_same, .inr rfl⟩) (r.move (fun _ z => .inl z) fun b o _ e => by rw [upd_ne (ne_of_none e ha)]; exact e))

/-! ### reading -/
theorem VT.move {H0 H' : Hp} {Fz' : Addr → Prop} {w : V} {x : Val} (s : Sit T p Fz H st) (e : Ext p Fz H Fz' H') : ∀ {k : Kd}, VT ⟨K, p, L⟩ H0 Fz H σ ρ w x k → VT ⟨K, p, L⟩ H0 Fz' H' σ ρ w x k
  | .cl, h => VR.move e.fz (e.kf s) h
  | .ow, h => h
  | .fr, ⟨a, vs, ds, e1, e2, e3, e4, e5, e6, e7⟩ => ⟨a, vs, ds, e1, e2, e.keep a _ e3 e5 (fun ps z => by cases z), (fun z => (e.new a z).elim e4 fun z => by rw [e3] at z; cases z), e5, e6, e7.move e.fz (e.kf s)⟩
theorem VT.base {H0 H1 : Hp} {w : V} {x : Val} (b : ∀ a, H1 a = none → H0 a = none) : ∀ {k : Kd}, VT ⟨K, p, L⟩ H1 Fz H σ ρ w x k → VT ⟨K, p, L⟩ H0 Fz H σ ρ w x k
  | .cl, h => h
  | .ow, h => h
  | .fr, ⟨a, vs, ds, e1, e2, e3, e4, e5, e6, e7⟩ => ⟨a, vs, ds, e1, e2, e3, e4, e5, b a e6, e7⟩
theorem VT.lstE {H0 : Hp} {w : V} {ds : List PyData} {k : Kd} (h : VT ⟨K, p, L⟩ H0 Fz H σ ρ w (.d (.list ds)) k) (r : ER ⟨K, p, L⟩ Fz H σ ρ) : ∃ a vs, w = .ref a ∧ Rd H a (.lst vs) ∧ Rps K Fz H vs ds := by
  cases k with
  | cl =>
    have h : Rp K Fz H w (.list ds) := h
    cases h with
    | lst q z r => exact ⟨_, _, rfl, q, r⟩
  | ow =>
    obtain ⟨i, es, h1, h2, h3⟩ := h
    cases h3
    obtain ⟨a, vs, g1, g2, _, _, g5⟩ := r.own i ds h1
    rw [h2] at g1
    cases g1
    exact ⟨a, vs, rfl, .inl g2, g5⟩
  | fr =>
    obtain ⟨a, vs, es, e1, e2, e3, _, _, _, e7⟩ := h
    cases e2
    exact ⟨a, vs, e1, .inl e3, e7⟩
theorem VT.lstS {H0 : Hp} {w : V} {ds : List PyData} {k : Kd} (h : VT ⟨K, p, L⟩ H0 Fz H σ ρ w (.d (.list ds)) k) (r : ER ⟨K, p, L⟩ Fz H σ ρ) : ∃ a vs, w = .ref a ∧ SqL K H a vs ∧ Rps K Fz H vs ds := by
  obtain ⟨a, vs, h1, h2, h3⟩ := h.lstE r
  exact ⟨a, vs, h1, .inl h2, h3⟩
theorem VT.other {H0 : Hp} {w : V} {d : PyData} {k : Kd} (h : VT ⟨K, p, L⟩ H0 Fz H σ ρ w (.d d) k) (n : ∀ ds, d ≠ .list ds) : Rp K Fz H w d := by
  cases k with
  | cl => exact h
  | ow =>
    obtain ⟨i, es, h1, h2, h3⟩ := h
    cases h3
    exact absurd rfl (n es)
  | fr =>
    obtain ⟨a, vs, es, e1, e2, _⟩ := h
    cases e2
    exact absurd rfl (n es)
theorem VT.tupS {H0 : Hp} {w : V} {ds : List PyData} {k : Kd} (h : VT ⟨K, p, L⟩ H0 Fz H σ ρ w (.d (.tuple ds)) k) : ∃ a vs, w = .ref a ∧ SqT K H a vs ∧ Rps K Fz H vs ds := by
  have h := h.other (fun _ z => by cases z)
  cases h with
  | tup q r => exact ⟨_, _, rfl, q.elim (fun z => .inl z.1) sqT_nil, r⟩
theorem VT.int {H0 : Hp} {w : V} {i : Int} {k : Kd} (h : VT ⟨K, p, L⟩ H0 Fz H σ ρ w (.d (.int i)) k) : w = .int i := by
  have h := h.other (fun _ z => by cases z)
  cases h; rfl
theorem VT.bl {H0 : Hp} {w : V} {b : Bool} {k : Kd} (h : VT ⟨K, p, L⟩ H0 Fz H σ ρ w (.d (.bool b)) k) : w = .bl b := by
  have h := h.other (fun _ z => by cases z)
  cases h; rfl
theorem VT.str {H0 : Hp} {w : V} {b : Str} {k : Kd} (h : VT ⟨K, p, L⟩ H0 Fz H σ ρ w (.d (.str b)) k) : w = .str b := by
  have h := h.other (fun _ z => by cases z)
  cases h; rfl
mutual
theorem Rp.dp : ∀ {d : PyData} {v : V}, d.canLay0 = true → Rp K Fz H v d → Dp K H v d
  | .none, _, _, h => by cases h; exact .non
  | .bool _, _, _, h => by cases h; exact .bl _
  | .int _, _, _, h => by cases h; exact .int _
  | .str _, _, _, h => by cases h; exact .str _
  | .list ds, _, c, h => by
    cases h with
    | lst q z r => exact .lst (.inl q) (Rps.dp (by simpa [PyData.canLay0] using c) r)
  | .tuple ds, _, c, h => by
    cases h with
    | tup q r => exact .tup (q.elim (fun z => .inl z.1) sqT_nil) (Rps.dp (by simpa [PyData.canLay0] using c) r)
  | .dict _, _, c, _ => by simp [PyData.canLay0] at c
theorem Rps.dp : ∀ {ds : List PyData} {vs : List V}, PyData.canLayAll0 ds = true → Rps K Fz H vs ds → DpAll K H vs ds
  | [], _, _, h => by cases h; exact .nil
  | d :: ds, _, c, h => by
    have c' : d.canLay0 = true ∧ PyData.canLayAll0 ds = true := by simpa [PyData.canLayAll0] using c
    cases h with
    | cons q r => exact .cons (Rp.dp c'.1 q) (Rps.dp c'.2 r)
end
theorem VT.dp {H0 : Hp} {w : V} {d : PyData} {k : Kd} (h : VT ⟨K, p, L⟩ H0 Fz H σ ρ w (.d d) k) (r : ER ⟨K, p, L⟩ Fz H σ ρ) (c : shp d = true) : Dp K H w d := by
  have c0 : d.canLay0 = true := SeqAt.canLay_of_shaped c
  cases d with
  | list ds =>
    obtain ⟨a, vs, rfl, h2, h3⟩ := h.lstS r
    exact .lst h2 (Rps.dp (by simpa [PyData.canLay0] using c0) h3)
  | none => exact Rp.dp c0 (h.other (fun _ z => by cases z))
  | bool b => exact Rp.dp c0 (h.other (fun _ z => by cases z))
  | int i => exact Rp.dp c0 (h.other (fun _ z => by cases z))
  | str x => exact Rp.dp c0 (h.other (fun _ z => by cases z))
  | tuple ds => exact Rp.dp c0 (h.other (fun _ z => by cases z))
  | dict ds => exact Rp.dp c0 (h.other (fun _ z => by cases z))
end
end PyD
namespace PyD
open PySem PySem.Spec PyProof.Rows L2
def opB : Bo → Operator
  | .add => .Add | .sub => .Sub | .mul => .Mult | .fdiv => .FloorDiv | .mod => .Mod | .pow => .Pow
def opC : Co → CmpOp
  | .eq => .Eq | .ne => .NotEq | .lt => .Lt | .le => .LtE | .gt => .Gt | .ge => .GtE | .isin => .In | .notin => .NotIn
theorem lt_pow_log (n : Nat) : n < 2 ^ (n.log2 + 1) := Nat.lt_log2_self
theorem fits_mul {a b : Int} (h : (fits a && fits b) = true) : CMulX a b := by
  simp only [fits, Bool.and_eq_true, decide_eq_true_eq] at h
  exact mulx_ok (lt_pow_log _) (lt_pow_log _) (by omega)
theorem div_small {i j : Int} (h : j.natAbs.log2 < 9000) : Builtin.divisionGoesByPylong i j = false := by
  unfold Builtin.divisionGoesByPylong
  have : ¬ ((if (j == 0) = true then 0 else j.natAbs.log2 / 30 + 1) > 300) := by
    split
    · omega
    · omega
  exact Bool.and_eq_false_iff.mpr (.inl (decide_eq_false this))
theorem Rps.rep {K : PySem.W.Frag} {Fz : Addr → Prop} {H : Hp} {ds : List PyData} {vs : List V} (h : Rps K Fz H vs ds) : ∀ n : Nat, Rps K Fz H (List.replicate n vs).flatten (List.replicate n ds).flatten
  | 0 => .nil
  | n + 1 => by rw [List.replicate_succ, List.replicate_succ, List.flatten_cons, List.flatten_cons]; exact h.append (Rps.rep h n)
section
variable {X : Cx} {pins : List (Addr × Obj)} {p : Option Addr} {L : Ls} {T : Tb} {Fz : Addr → Prop} {H : Hp} {st : Pot} {σ : L2.St} {ρ : List Sl} {s : Shared} {Q : VK}
theorem fin_int {i : Int} {t : Nat} (I : Inv X pins σ H s) (S : Sit T p Fz H st) (q : Done X.K p L T Fz H σ ρ st Q (.d (.int i)) .cl) : EP X pins σ Q (.int i s.toks) { s with toks := t } := ⟨.int i, H, I.tok _, ⟨_, rfl⟩, q.flat S (.int i)⟩
/-- the object of a tracked list -/
theorem rd_obj (I : Inv X pins σ H s) {a : Addr} {vs : List V} (h : Rd H a (.lst vs)) : ∃ (its : List Value) (n : Nat), vs.length ≤ sizeLine ∧ Vals vs its ∧ s.heap.get? a = some { cls := .type "list", data := .seq its.toArray n } := by
  obtain ⟨z, its, n, r, e⟩ := h.ok I.hok
  exact ⟨its, n, z, r, e⟩
theorem list_cat {a b : Addr} {xs zs : List V} (I : Inv X pins σ H s) (ha : Rd H a (.lst xs)) (hb : Rd H b (.lst zs)) (hz : xs.length + zs.length ≤ sizeLine) (q : ∀ c, H c = none → Q (.ref c) (upd H c (.lst (xs ++ zs)))) :
    wpAny (model X.prog X.w) X.A (binaryOp .Add (.ref a) (.ref b)) (EP X pins σ Q) X.xe s := by
  obtain ⟨its, n, z, r, e⟩ := rd_obj I ha
  obtain ⟨its2, n2, z2, r2, e2⟩ := rd_obj I hb
  have hl := r.length
  have hl2 := r2.length
  refine PySem.P.add_list e e2 ?_ (by rw [List.size_toArray, List.size_toArray]; omega)
  have ea : its.toArray ++ its2.toArray = (its ++ its2).toArray := by simp
  rw [ea]
  exact ⟨.ref _, _, I.lnew (t' := s.toks) (r.append r2) (by rw [List.length_append]; omega), rfl, q _ I.fresh⟩
theorem list_rep {a : Addr} {xs : List V} {k : Int} {t : Tok} (I : Inv X pins σ H s) (ha : Rd H a (.lst xs)) (h1 : -1000 ≤ k) (h2 : k ≤ 1000) (hx : xs.length ≤ 1000) (q : ∀ c, H c = none → Q (.ref c) (upd H c (.lst (List.replicate k.toNat xs).flatten))) :
    wpAny (model X.prog X.w) X.A (binaryOp .Mult (.ref a) (.int k t)) (EP X pins σ Q) X.xe s := by
  obtain ⟨its, n, z, r, e⟩ := rd_obj I ha
  have hl := r.length
  have hm : its.toArray.size * k.toNat ≤ 1000000 := by
    rw [List.size_toArray]
    exact Nat.le_trans (Nat.mul_le_mul (show its.length ≤ 1000 by omega) (show k.toNat ≤ 1000 by omega)) (by decide)
  have hz : its.toArray.size * k.toNat ≤ sizeLine := by rw [sizeLine_eq]; omega
  have hfit : ¬ (!Builtin.List.listFitsIndex k) = true := by rw [fitsIndex_both (by omega) (by omega)]; exact Bool.false_ne_true
  have hcap : ¬ its.toArray.size * k.toNat > (2 ^ 63 - 1) / 8 := by omega
  have hlong : ¬ Builtin.List.listTooLong (its.toArray.size * k.toNat) = true := by rw [notLongL hz]; exact Bool.false_ne_true
  have f0 : ∀ m : Nat, List.foldl (fun x1 x2 => x1 ++ x2) #[] (List.replicate m its.toArray) = (List.replicate m its).flatten.toArray := fun m => by
    have q := L2.foldl_rep its m []
    rw [List.nil_append] at q
    exact q
  have hnew : List.foldl (fun x1 x2 => x1 ++ x2) #[] (List.replicate (if its.toArray.isEmpty = true then 0 else k.toNat) its.toArray) = (List.replicate k.toNat its).flatten.toArray := by
    rw [f0]
    cases its with
    | nil => simp
    | cons b r' => rw [if_neg (by simp)]
  refine wpAny_binaryOp_repeat_ref (T := "list") (U := "int") (by decide) ⟨_, e, rfl⟩ (fun s' => typeIs_int s' k t) noFill_list_mul F.fills_int_mul F.slot_int_rmul repeat_list F.slot_int_index.lookup ?_
  refine call_meets F.slot_int_rmul (typeIs_int s k t) F.entry_int_rmul (F.args_int_rmul_2 _ _) (int___rmul___int_list k t a its.toArray n) ⟨e, rfl, ⟨_, e, rfl⟩, ?_⟩
  refine call_meets F.slot_list_mul ⟨_, e, rfl⟩ F.entry_list_mul (F.args_list_mul_2 _ _) (AutoListH.list___mul___list_int_3 a its.toArray n k t hfit hcap hlong) ⟨e, ?_⟩
  rw [hnew]
  exact ⟨.ref _, _, I.lnew (t' := s.toks) (r.rep k.toNat) (by rw [PyProof.Rows.lm_len_rep_flat, Nat.mul_comm, hl]; simpa using hz), rfl, q _ I.fresh⟩
theorem bin_ok {o : Bo} {x y z : PyData} {w1 w2 : V} {v u : Value} {k1 k2 : Kd} {H1 H2 : Hp} (I : Inv X pins σ H s) (S : Sit T p Fz H st) (E : ER ⟨X.K, p, L⟩ Fz H σ ρ) (rx : RelV w1 v) (ry : RelV w2 u)
    (h1 : VT ⟨X.K, p, L⟩ H1 Fz H σ ρ w1 (.d x) k1) (h2 : VT ⟨X.K, p, L⟩ H2 Fz H σ ρ w2 (.d y) k2) (e : binD o x y = some z) (q : Done X.K p L T Fz H σ ρ st Q (.d z) (kd z)) :
    wpAny (model X.prog X.w) X.A (binaryOp (opB o) v u) (EP X pins σ Q) X.xe s := by
  unfold binD at e
  split at e
  · cases e
    rw [h1.int] at rx; rw [h2.int] at ry
    exact op_add pins s σ H _ _ v u Q I rx ry ⟨_, _, rfl, rfl, q.flat S (.int _)⟩
  · split at e
    · rename_i hl
      cases e
      rw [h1.str] at rx; rw [h2.str] at ry
      exact op_add_str pins s σ H _ _ v u Q I rx ry ⟨_, _, rfl, rfl, by rw [sizeLine_eq]; exact hl, q.flat S (.str _)⟩
    · cases e
  · split at e
    · rename_i hl
      cases e
      obtain ⟨a, vs, rfl, ha, ra⟩ := h1.lstE E
      obtain ⟨b, ws, rfl, hb, rb⟩ := h2.lstE E
      cases rx; cases ry
      exact list_cat I ha hb (by rw [ra.length, rb.length, sizeLine_eq]; exact hl) fun c hc => q.lst S hc (ra.append rb)
    · cases e
  · split at e
    · rename_i hl
      cases e
      obtain ⟨a, vs, rfl, ha, ra⟩ := h1.tupS
      obtain ⟨b, ws, rfl, hb, rb⟩ := h2.tupS
      have hr := ra.append rb
      have r1 := h1.other (fun _ z => by cases z)
      have r2 := h2.other (fun _ z => by cases z)
      refine op_catA pins s σ H _ _ v u Q I rx ry ⟨a, b, vs, ws, rfl, rfl, ha, hb, by rw [ra.length, rb.length, sizeLine_eq]; exact hl, fun e1 => ?_, fun _ e2 => ?_, fun _ _ c hc => q.tup S hc hr⟩
      · subst e1
        cases ra
        exact q.flat S r2
      · subst e2
        cases rb
        rw [List.append_nil] at q
        exact q.flat S r1
    · cases e
  · cases e
    rw [h1.int] at rx; rw [h2.int] at ry
    exact op_sub pins s σ H _ _ v u Q I rx ry ⟨_, _, rfl, rfl, q.flat S (.int _)⟩
  · split at e
    · rename_i hl
      cases e
      rw [h1.int] at rx; rw [h2.int] at ry
      exact op_mulX pins s σ H _ _ v u Q I rx ry ⟨_, _, rfl, rfl, fits_mul hl, q.flat S (.int _)⟩
    · cases e
  · split at e
    · rename_i a b hl
      cases e
      obtain ⟨a', vs, rfl, ha, ra⟩ := h1.lstE E
      rw [h2.int] at ry
      cases rx
      obtain ⟨t, rfl⟩ := ry
      exact list_rep I ha hl.2.1 hl.1 (by rw [ra.length]; exact hl.2.2) fun c hc => q.lst S hc (ra.rep _)
    · cases e
  · split at e
    · rename_i a b hl
      cases e
      obtain ⟨a', vs, rfl, ha, ra⟩ := h1.tupS
      rw [h2.int] at ry
      have r1 := h1.other (fun _ z => by cases z)
      refine op_repA pins s σ H _ _ v u Q I rx ry ⟨a', _, vs, rfl, rfl, ha, hl.2.1, hl.1, by rw [ra.length]; exact hl.2.2, fun hz => ?_, fun c hc => q.tup S hc (ra.rep _)⟩
      rcases hz with hz | hz
      · subst hz
        cases ra
        rw [show (List.replicate b.toNat ([] : List PyData)).flatten = [] by simp] at q
        exact q.flat S r1
      · subst hz
        rw [show (List.replicate (1 : Int).toNat a).flatten = a by simp] at q
        exact q.flat S r1
    · cases e
  · split at e
    · rename_i hl
      cases e
      rw [h1.int] at rx; rw [h2.int] at ry
      obtain ⟨t, rfl⟩ := rx
      obtain ⟨t', rfl⟩ := ry
      exact floordiv_int hl.1 (fin_int I S q) (.inl (div_small hl.2))
    · cases e
  · split at e
    · rename_i hl
      cases e
      rw [h1.int] at rx; rw [h2.int] at ry
      obtain ⟨t, rfl⟩ := rx
      obtain ⟨t', rfl⟩ := ry
      exact mod_int hl (fin_int I S q)
    · cases e
  · split at e
    · rename_i hl
      cases e
      rw [h1.int] at rx; rw [h2.int] at ry
      exact op_pow pins s σ H _ _ v u Q I rx ry ⟨_, _, rfl, rfl, ⟨hl.1, by omega, hl.2.2⟩, q.flat S (.int _)⟩
    · cases e
  · cases e
end
end PyD
namespace PyD
open PySem PySem.Spec PyProof.Rows L2
section
variable {X : Cx} {pins : List (Addr × Obj)} {p : Option Addr} {L : Ls} {T : Tb} {Fz : Addr → Prop} {H : Hp} {st : Pot} {σ : L2.St} {ρ : List Sl} {s : Shared} {Q : VK}
theorem units65 {lv : Nat} (hr : RoomG lv X.A) : X.A.units + 65 < cLine := by have := hr.r.un; omega
theorem in_ok {b : Bool} {x y : PyData} {w1 w2 : V} {v u : Value} {k1 k2 : Kd} {H1 H2 : Hp} {lv : Nat} (hr : RoomG lv X.A) (I : Inv X pins σ H s) (S : Sit T p Fz H st) (E : ER ⟨X.K, p, L⟩ Fz H σ ρ) (rx : RelV w1 v) (ry : RelV w2 u)
    (h1 : VT ⟨X.K, p, L⟩ H1 Fz H σ ρ w1 (.d x) k1) (h2 : VT ⟨X.K, p, L⟩ H2 Fz H σ ρ w2 (.d y) k2) (e : inD x y = some b) (neg : Bool) (q : Q (.bl (if neg then !b else b)) H) :
    wpAny (model X.prog X.w) X.A (compareOp (if neg then .NotIn else .In) v u) (EP X pins σ Q) X.xe s := by
  unfold inD at e
  split at e
  · split at e
    · rename_i hs
      cases e
      simp only [Bool.and_eq_true] at hs
      cases neg with
      | false => exact op_inD (units65 hr) pins s σ H _ _ v u Q I rx ry ⟨x, _, h1.dp E hs.1, h2.dp E hs.2, hs.1, hs.2, q⟩
      | true => exact op_notInD (units65 hr) pins s σ H _ _ v u Q I rx ry ⟨x, _, h1.dp E hs.1, h2.dp E hs.2, hs.1, hs.2, q⟩
    · cases e
  · split at e
    · rename_i hs
      cases e
      simp only [Bool.and_eq_true] at hs
      obtain ⟨as, r1⟩ := Dp.reads I x _ v (h1.dp E hs.1) rx
      obtain ⟨bs, r2⟩ := Dp.reads I _ _ u (h2.dp E hs.2) ry
      have hu := room_in_shaped (A := X.A) (xs := ‹List PyData›) hs.1 (units65 hr)
      cases neg with
      | false => exact SeqAt.in_tuple_reads r2 r1 (SeqAt.canLay_of_shaped hs.2) (SeqAt.canLay_of_shaped hs.1) hu ⟨.bl _, H, I, rfl, q⟩
      | true => exact SeqAt.notIn_tuple_reads r2 r1 (SeqAt.canLay_of_shaped hs.2) (SeqAt.canLay_of_shaped hs.1) hu ⟨.bl _, H, I, rfl, q⟩
    · cases e
  · cases e
theorem cmp_ok {o : Co} {b : Bool} {x y : PyData} {w1 w2 : V} {v u : Value} {k1 k2 : Kd} {H1 H2 : Hp} {lv : Nat} (hr : RoomG lv X.A) (I : Inv X pins σ H s) (S : Sit T p Fz H st) (E : ER ⟨X.K, p, L⟩ Fz H σ ρ) (rx : RelV w1 v) (ry : RelV w2 u)
    (h1 : VT ⟨X.K, p, L⟩ H1 Fz H σ ρ w1 (.d x) k1) (h2 : VT ⟨X.K, p, L⟩ H2 Fz H σ ρ w2 (.d y) k2) (e : cmpD o x y = some b) (q : Q (.bl b) H) :
    wpAny (model X.prog X.w) X.A (compareOp (opC o) v u) (EP X pins σ Q) X.xe s := by
  have hu := units65 hr
  unfold cmpD at e
  split at e
  · split at e
    · rename_i hs
      cases e
      simp only [Bool.and_eq_true] at hs
      exact op_eqD (by omega) pins s σ H _ _ v u Q I rx ry ⟨_, _, h1.dp E hs.1, h2.dp E hs.2, hs.1, hs.2, q⟩
    · cases e
  · split at e
    · rename_i hs
      cases e
      simp only [Bool.and_eq_true] at hs
      exact op_neD (by omega) pins s σ H _ _ v u Q I rx ry ⟨_, _, h1.dp E hs.1, h2.dp E hs.2, hs.1, hs.2, q⟩
    · cases e
  · cases e
    rw [h1.int] at rx; rw [h2.int] at ry
    exact op_lt pins s σ H _ _ v u Q I rx ry ⟨_, _, rfl, rfl, q⟩
  · cases e
    rw [h1.int] at rx; rw [h2.int] at ry
    exact op_le pins s σ H _ _ v u Q I rx ry ⟨_, _, rfl, rfl, q⟩
  · cases e
    rw [h1.int] at rx; rw [h2.int] at ry
    exact op_gt pins s σ H _ _ v u Q I rx ry ⟨_, _, rfl, rfl, q⟩
  · cases e
    rw [h1.int] at rx; rw [h2.int] at ry
    exact op_ge pins s σ H _ _ v u Q I rx ry ⟨_, _, rfl, rfl, q⟩
  · split at e
    · rename_i hs
      cases e
      simp only [Bool.and_eq_true] at hs
      obtain ⟨as, r1⟩ := Dp.reads I _ _ v (h1.dp E hs.1.1) rx
      obtain ⟨bs, r2⟩ := Dp.reads I _ _ u (h2.dp E hs.1.2) ry
      exact PySem.W.lt_data r1 r2 hs.2 (fun z => by cases z) (SeqAt.room_of_shaped hs.1.1 (by omega)) ⟨.bl _, H, I, rfl, q⟩
    · cases e
  · split at e
    · rename_i hs
      cases e
      simp only [Bool.and_eq_true] at hs
      obtain ⟨as, r1⟩ := Dp.reads I _ _ v (h1.dp E hs.1.1) rx
      obtain ⟨bs, r2⟩ := Dp.reads I _ _ u (h2.dp E hs.1.2) ry
      exact PySem.W.le_data r1 r2 hs.2 (fun z => by cases z) (SeqAt.room_of_shaped hs.1.1 (by omega)) ⟨.bl _, H, I, rfl, q⟩
    · cases e
  · split at e
    · rename_i hs
      cases e
      simp only [Bool.and_eq_true] at hs
      obtain ⟨as, r1⟩ := Dp.reads I _ _ v (h1.dp E hs.1.1) rx
      obtain ⟨bs, r2⟩ := Dp.reads I _ _ u (h2.dp E hs.1.2) ry
      exact PySem.W.gt_data r1 r2 hs.2 (fun z => by cases z) (SeqAt.room_of_shaped hs.1.1 (by omega)) ⟨.bl _, H, I, rfl, q⟩
    · cases e
  · split at e
    · rename_i hs
      cases e
      simp only [Bool.and_eq_true] at hs
      obtain ⟨as, r1⟩ := Dp.reads I _ _ v (h1.dp E hs.1.1) rx
      obtain ⟨bs, r2⟩ := Dp.reads I _ _ u (h2.dp E hs.1.2) ry
      exact PySem.W.ge_data r1 r2 hs.2 (fun z => by cases z) (SeqAt.room_of_shaped hs.1.1 (by omega)) ⟨.bl _, H, I, rfl, q⟩
    · cases e
  · exact in_ok hr I S E rx ry h1 h2 e false q
  · obtain ⟨c, h, e⟩ := Option.map_eq_some_iff.mp e
    cases e
    exact in_ok hr I S E rx ry h1 h2 h true q
  · cases e
theorem rIxL_or {X : Cx} : IxR X (fun x y H Q => rIxL X.K x y H Q ∨ rIxT X.K x y H Q) := by
  intro value slice pins s σ H x y v u Q I rx ry h hs
  rcases h with h | h
  · exact ix_list value slice pins s σ H x y v u Q I rx ry h hs
  · exact ix_tup value slice pins s σ H x y v u Q I rx ry h hs
theorem atI_of {vs : List V} {ds : List PyData} {i : Int} {d : PyData} (r : Rps X.K Fz H vs ds) (e : ((atD ds.length i).bind fun k => ds[k]?) = some d) : ∃ v, atI vs i = some v ∧ Rp X.K Fz H v d := by
  obtain ⟨k, e1, e2⟩ := Option.bind_eq_some_iff.mp e
  obtain ⟨v, h1, h2⟩ := r.get e2
  refine ⟨v, ?_, h2⟩
  have e1 : ixN ds.length i = some k := e1
  unfold atI
  rw [r.length, e1]
  exact h1
theorem idx_at {x y d : PyData} {w1 w2 : V} {k1 k2 : Kd} {H1 H2 : Hp} (S : Sit T p Fz H st) (E : ER ⟨X.K, p, L⟩ Fz H σ ρ)
    (h1 : VT ⟨X.K, p, L⟩ H1 Fz H σ ρ w1 (.d x) k1) (h2 : VT ⟨X.K, p, L⟩ H2 Fz H σ ρ w2 (.d y) k2) (e : idxD x y = some d) (q : Done X.K p L T Fz H σ ρ st Q (.d d) .cl) : rIxL X.K w1 w2 H Q ∨ rIxT X.K w1 w2 H Q := by
  unfold idxD at e
  split at e
  · obtain ⟨a, vs, rfl, ha, ra⟩ := h1.lstS E
    obtain ⟨v, e1, e2⟩ := atI_of ra e
    exact .inl ⟨a, vs, _, v, rfl, h2.int, ha, e1, q.flat S e2⟩
  · obtain ⟨a, vs, rfl, ha, ra⟩ := h1.tupS
    obtain ⟨v, e1, e2⟩ := atI_of ra e
    exact .inr ⟨a, vs, _, v, rfl, h2.int, ha, e1, q.flat S e2⟩
  · cases e
/-- a slice's ends -/
def intO : Option PyData → Option Int → Prop
  | none, o => o = none
  | some d, o => ∃ i, d = .int i ∧ o = some i
theorem cutP_ix {n d : Nat} {x : Option PyData} {o : Option Int} {a : Nat} (h : intO x o) (e : cutP n d x = some a) : HT.sIx n d o = a := by
  cases x with
  | none =>
    have h : o = none := h
    rw [h]
    exact Option.some.inj e
  | some y =>
    obtain ⟨i, rfl, rfl⟩ := h
    exact Option.some.inj e
theorem cut_of {vs : List V} {ds es : List PyData} {lo hi : Option PyData} {l h : Option Int} (r : Rps X.K Fz H vs ds) (hl : intO lo l) (hh : intO hi h) (e : cutD ds lo hi = some es) : Rps X.K Fz H (cutV vs l h) es ∧
    (HT.sIx vs.length 0 l = 0 ∧ HT.sIx vs.length vs.length h = vs.length → es = ds) := by
  unfold cutD at e
  obtain ⟨a, e1, e2⟩ := Option.bind_eq_some_iff.mp e
  obtain ⟨b, e3, e4⟩ := Option.map_eq_some_iff.mp e2
  subst e4
  have i1 := cutP_ix hl e1
  have i2 := cutP_ix hh e3
  rw [← r.length] at i1 i2
  constructor
  · unfold cutV
    rw [i1, i2]
    exact (r.drop a).take (b - a)
  · rintro ⟨z1, z2⟩
    rw [z1] at i1
    rw [z2] at i2
    rw [← i1, ← i2, r.length]
    simp
theorem slc_at {x d : PyData} {w : V} {k : Kd} {H1 : Hp} {lo hi : Option PyData} {l h : Option Int} (S : Sit T p Fz H st) (E : ER ⟨X.K, p, L⟩ Fz H σ ρ) (h1 : VT ⟨X.K, p, L⟩ H1 Fz H σ ρ w (.d x) k) (hl : intO lo l) (hh : intO hi h) (e : slcD x lo hi = some d)
    (q : Done X.K p L T Fz H σ ρ st Q (.d d) (kd d)) : rSlL X.K w l h H Q ∨ rSlA X.K w l h H Q := by
  unfold slcD at e
  split at e
  · obtain ⟨es, e1, e2⟩ := Option.map_eq_some_iff.mp e
    cases e2
    obtain ⟨a, vs, rfl, ha, ra⟩ := h1.lstS E
    exact .inl ⟨a, vs, rfl, ha, fun c hc => q.lst S hc (cut_of ra hl hh e1).1⟩
  · obtain ⟨es, e1, e2⟩ := Option.map_eq_some_iff.mp e
    cases e2
    have r0 := h1.other (fun _ z => by cases z)
    obtain ⟨a, vs, rfl, ha, ra⟩ := h1.tupS
    obtain ⟨r1, r2⟩ := cut_of ra hl hh e1
    refine .inr ⟨a, vs, rfl, ha, fun z => ?_, fun z c hc => q.tup S hc r1⟩
    rw [r2 z] at q
    exact q.flat S r0
  · cases e
end
end PyD
namespace PyD
open PySem PySem.Spec PyProof.Rows L2
section
variable {K : PySem.W.Frag} {p : Option Addr} {L : Ls} {Fz : Addr → Prop} {H : Hp} {σ : L2.St} {ρ : List Sl}
/-- the values of several expressions, all seen from now -/
inductive VTs (R : Rc) (H0 : Hp) (Fz : Addr → Prop) (H : Hp) (σ : L2.St) (ρ : List Sl) : List V → List (Val × Kd) → Prop
  | nil : VTs R H0 Fz H σ ρ [] []
  | cons {w : V} {ws : List V} {x : Val} {k : Kd} {as : List (Val × Kd)} : VT R H0 Fz H σ ρ w x k → VTs R H0 Fz H σ ρ ws as → VTs R H0 Fz H σ ρ (w :: ws) ((x, k) :: as)
theorem nums_eq : ∀ {xs : List PyData} {ns : List Int}, nums xs = some ns → xs = ns.map PyData.int
  | [], ns, h => by
    have h : some [] = some ns := h
    cases h; rfl
  | d :: r, ns, h => by
    unfold nums at h
    split at h
    · rename_i e; cases e
    · rename_i i r' e
      obtain ⟨ms, h1, h2⟩ := Option.map_eq_some_iff.mp h
      cases e
      subst h2
      rw [List.map_cons, ← nums_eq h1]
    · cases h
theorem flags_eq : ∀ {xs : List PyData} {ns : List Bool}, flags xs = some ns → xs = ns.map PyData.bool
  | [], ns, h => by
    have h : some [] = some ns := h
    cases h; rfl
  | d :: r, ns, h => by
    unfold flags at h
    split at h
    · rename_i e; cases e
    · rename_i i r' e
      obtain ⟨ms, h1, h2⟩ := Option.map_eq_some_iff.mp h
      cases e
      subst h2
      rw [List.map_cons, ← flags_eq h1]
    · cases h
theorem Rps.nums : ∀ {ns : List Int} {vs : List V}, Rps K Fz H vs (ns.map PyData.int) → vs = ns.map V.int
  | [], vs, h => by cases h; rfl
  | n :: ns, vs, h => by
    cases h with
    | cons q r =>
      cases q
      rw [List.map_cons, ← Rps.nums r]
theorem Rps.flags : ∀ {ns : List Bool} {vs : List V}, Rps K Fz H vs (ns.map PyData.bool) → vs = ns.map V.bl
  | [], vs, h => by cases h; rfl
  | n :: ns, vs, h => by
    cases h with
    | cons q r =>
      cases q
      rw [List.map_cons, ← Rps.flags r]
end
section
variable {X : Cx} {pins : List (Addr × Obj)} {p : Option Addr} {L : Ls} {T : Tb} {Fz : Addr → Prop} {H H1 H2 : Hp} {st : Pot} {σ : L2.St} {ρ : List Sl} {s : Shared} {Q : VK}
/-! ### types -/
def tyN : PyData → String
  | .none => "NoneType" | .bool _ => "bool" | .int _ => "int" | .str _ => "str" | .list _ => "list" | .tuple _ => "tuple" | .dict _ => "dict"
theorem Rp.tyx {d : PyData} {w : V} (h : Rp X.K Fz H w d) : TyX X.K H w (.type (tyN d)) := by
  cases h with
  | non => exact .base .non
  | bl b => exact .base (.bl b)
  | int i => exact .base (.int i)
  | str x => exact .base (.str x)
  | lst q z r =>
    rcases q with q | ⟨o, q⟩
    · exact .base (.lst q)
    · exact .base (.frz q)
  | tup q r =>
    rcases q with ⟨q | ⟨o, q⟩, _⟩ | q
    · exact .base (.tup q)
    · exact .fTuple q
    · rcases q with (q | ⟨o, q⟩) | ⟨o, its, n, h1, h2, _⟩
      · cases q
      · cases q
      · exact .kTuple h1 h2
  | dct q z => exact .base (.dK q)
theorem VT.tyx {d : PyData} {w : V} {k : Kd} (h : VT ⟨X.K, p, L⟩ H1 Fz H σ ρ w (.d d) k) (E : ER ⟨X.K, p, L⟩ Fz H σ ρ) : TyX X.K H w (.type (tyN d)) := by
  cases d with
  | list ds =>
    obtain ⟨a, vs, rfl, ha, _⟩ := h.lstE E
    rcases ha with q | ⟨o, q⟩
    · exact .base (.lst q)
    · exact .base (.frz q)
  | none => exact (h.other (fun _ z => by cases z)).tyx
  | bool b => exact (h.other (fun _ z => by cases z)).tyx
  | int i => exact (h.other (fun _ z => by cases z)).tyx
  | str x => exact (h.other (fun _ z => by cases z)).tyx
  | tuple ds => exact (h.other (fun _ z => by cases z)).tyx
  | dict ds => exact (h.other (fun _ z => by cases z)).tyx
/-- is the data of one of the classes -/
def isiOne (d : PyData) (c : String) : Bool := tyN d == c || (tyN d == "bool" && c == "int")
def okCls (c : String) : Bool := ["int", "bool", "str", "list", "tuple", "dict"].contains c
theorem kitB_ok {d : PyData} {c : String} (h : okCls c = true) : kitB (tyN d) c = some (isiOne d c) := by
  have key : ∀ t ∈ ["NoneType", "bool", "int", "str", "list", "tuple", "dict"], ∀ c ∈ ["int", "bool", "str", "list", "tuple", "dict"], kitB t c = some (t == c || (t == "bool" && c == "int")) := by decide +kernel
  exact key _ (by cases d <;> simp [tyN]) c (by simpa [okCls] using h)
theorem isi_ok {d : PyData} {w : V} {k : Kd} {u : Value} {c : String} (h : VT ⟨X.K, p, L⟩ H1 Fz H σ ρ w (.d d) k) (E : ER ⟨X.K, p, L⟩ Fz H σ ρ) (I : Inv X pins σ H s) (r : RelV w u) (hc : okCls c = true) (q : Q (.bl (isiOne d c)) H) :
    wpAny (model X.prog X.w) X.A (call (.builtin "isinstance") [u, .type c]) (EP X pins σ Q) X.xe s :=
  call_isi pins s σ H [w, .ty c] _ Q I (.cons r (.cons rfl .nil)) ⟨w, .ty c, .type (tyN d), .type c, isiOne d c, rfl, .ty c, h.tyx E, kit_ty (kitB_ok hc), q⟩
theorem kitAny_ok {d : PyData} : ∀ {cs : List String}, cs.all okCls = true → PySem.W.kitAny X.K (.type (tyN d)) (cs.map Value.type) = some (cs.any (isiOne d))
  | [], _ => kitAny_nil
  | c :: cs, h => by
    have h' : okCls c = true ∧ cs.all okCls = true := by simpa using h
    refine kitAny_cons (b := isiOne d c) (kit_ty (kitB_ok h'.1)) (fun hb => ?_) fun hb => ?_
    · rw [List.any_cons, hb, Bool.false_or]
      exact kitAny_ok h'.2
    · rw [List.any_cons, hb, Bool.true_or]
theorem clsVs : ∀ cs : List String, Paired ClsV (cs.map V.ty) (cs.map Value.type)
  | [] => .nil
  | c :: cs => .cons (.ty c) (clsVs cs)
theorem isiT_ok {d : PyData} {w : V} {k : Kd} {u : Value} {cs : List String} {tp : Addr} (h : VT ⟨X.K, p, L⟩ H1 Fz H σ ρ w (.d d) k) (E : ER ⟨X.K, p, L⟩ Fz H σ ρ) (I : Inv X pins σ H s) (r : RelV w u) (hc : cs.all okCls = true) (ht : H tp = some (.tup (cs.map V.ty))) (q : Q (.bl (cs.any (isiOne d))) H) :
    wpAny (model X.prog X.w) X.A (call (.builtin "isinstance") [u, .ref tp]) (EP X pins σ Q) X.xe s :=
  call_isiT pins s σ H [w, .ref tp] _ Q I (.cons r (.cons rfl .nil)) ⟨w, tp, cs.map V.ty, .type (tyN d), cs.map Value.type, cs.any (isiOne d), rfl, ht, clsVs cs, h.tyx E, kitAny_ok hc, q⟩
/-! ### repr -/
theorem Done.str {z : Str} (S : Sit T p Fz H st) (q : Done X.K p L T Fz H σ ρ st Q (.d (.str z)) .cl) : Q (.str z) H := q.flat S (.str z)
mutual
theorem Rp.reads (I : Inv X pins σ H s) : ∀ (d : PyData) (v : V) (u : Value), d.hasDict = false → Rp X.K Fz H v d → RelV v u → ∃ as, Reads s.heap u d as
  | .none, _, _, _, h, r => by cases h; cases r; exact ⟨_, .none⟩
  | .bool b, _, _, _, h, r => by cases h; cases r; exact ⟨_, .bool b⟩
  | .int i, _, _, _, h, r => by cases h; obtain ⟨t, rfl⟩ := r; exact ⟨_, .int i t⟩
  | .str x, _, _, _, h, r => by cases h; obtain ⟨t, rfl⟩ := r; exact ⟨_, .str x t⟩
  | .list ds, _, _, c, h, r => by
    cases h with
    | lst q z ra =>
      cases r
      obtain ⟨its, n, _, rv, ho⟩ := rd_obj I q
      obtain ⟨as, hr⟩ := Rps.reads I ds _ its (by simpa [PyData.hasDict] using c) ra rv
      exact ⟨_, .list ho rfl rfl hr⟩
  | .tuple ds, _, _, c, h, r => by
    cases h with
    | tup q ra =>
      cases r
      obtain ⟨its, rv, ⟨o, ho, hc, n, hd⟩, _⟩ := I.tuple (q.elim (fun z => .inl z.1) sqT_nil)
      obtain ⟨as, hr⟩ := Rps.reads I ds _ its (by simpa [PyData.hasDict] using c) ra rv
      exact ⟨_, .tuple ho hc hd hr⟩
  | .dict _, _, _, c, _, _ => by simp [PyData.hasDict] at c
theorem Rps.reads (I : Inv X pins σ H s) : ∀ (ds : List PyData) (vs : List V) (us : List Value), PyData.hasDictAll ds = false → Rps X.K Fz H vs ds → Vals vs us → ∃ as, ReadsAll s.heap us ds as
  | [], _, _, _, h, r => by cases h; cases r; exact ⟨_, .nil⟩
  | d :: ds, _, _, c, h, r => by
    have c' : d.hasDict = false ∧ PyData.hasDictAll ds = false := by simpa [PyData.hasDictAll] using c
    cases h with
    | cons h1 h2 =>
      cases r with
      | cons r1 r2 =>
        obtain ⟨as, q1⟩ := Rp.reads I d _ _ c'.1 h1 r1
        obtain ⟨bs, q2⟩ := Rps.reads I ds _ _ c'.2 h2 r2
        exact ⟨_, .cons q1 q2⟩
end
theorem VT.reads {d : PyData} {w : V} {k : Kd} {u : Value} (I : Inv X pins σ H s) (h : VT ⟨X.K, p, L⟩ H1 Fz H σ ρ w (.d d) k) (E : ER ⟨X.K, p, L⟩ Fz H σ ρ) (c : d.hasDict = false) (r : RelV w u) : ∃ as, Reads s.heap u d as := by
  cases d with
  | list ds =>
    obtain ⟨a, vs, rfl, ha, ra⟩ := h.lstE E
    cases r
    obtain ⟨its, n, _, rv, ho⟩ := rd_obj I ha
    obtain ⟨as, hr⟩ := Rps.reads I ds _ its (by simpa [PyData.hasDict] using c) ra rv
    exact ⟨_, .list ho rfl rfl hr⟩
  | none => exact Rp.reads I _ _ _ c (h.other (fun _ z => by cases z)) r
  | bool b => exact Rp.reads I _ _ _ c (h.other (fun _ z => by cases z)) r
  | int i => exact Rp.reads I _ _ _ c (h.other (fun _ z => by cases z)) r
  | str x => exact Rp.reads I _ _ _ c (h.other (fun _ z => by cases z)) r
  | tuple ds => exact Rp.reads I _ _ _ c (h.other (fun _ z => by cases z)) r
  | dict ds => simp [PyData.hasDict] at c
/-- repr of a clean value, wherever the caller stands -/
theorem repr_rp {d : PyData} {z : Str} {w : V} {u : Value} (hun : X.A.units + 200 < cLine) (hg : X.A.guards = some []) (I : Inv X pins σ H s) (h : Rp X.K Fz H w d) (r : RelV w u) (e : biD .repr [d] = some (.str z)) (q : Q (.str z) H) :
    wpAny (model X.prog X.w) X.A (call (.builtin "repr") [u]) (EP X pins σ Q) X.xe s := by
  unfold biD at e
  simp only at e
  split at e
  · rename_i hc
    cases e
    simp only [Bool.and_eq_true, decide_eq_true_eq, Bool.not_eq_true'] at hc
    obtain ⟨⟨⟨c1, c2⟩, c3⟩, c4⟩ := hc
    have c4 : d.shown.length ≤ sizeLine := by rw [sizeLine_eq]; exact c4
    cases d with
    | none =>
      cases h
      cases r
      exact PySem.P.repr_of_none ⟨.str _, H, I.tok _, ⟨_, rfl⟩, q⟩
    | bool b => cases h; cases r; exact PySem.P.repr_of_bool ⟨.str _, H, I.tok _, ⟨_, rfl⟩, q⟩
    | int i =>
      cases h
      obtain ⟨t, rfl⟩ := r
      exact PySem.P.repr_of_int (by simpa [PyData.showable] using c1) ⟨.str _, H, I.tok _, ⟨_, rfl⟩, q⟩
    | str x =>
      cases h
      obtain ⟨t, rfl⟩ := r
      exact PySem.P.repr_of_str ⟨.str _, H, I.tok _, ⟨_, rfl⟩, q⟩ c4
    | list ds =>
      obtain ⟨as, rd⟩ := Rp.reads I _ _ _ c2 h r
      cases h
      cases r
      exact repr_of_reads' rd c1 (fun z => by rw [c2] at z; cases z) hg (by omega) (fun _ _ z => z) (fun h' u tk hk => ⟨.str _, H, I.kept hk, ⟨_, rfl⟩, q⟩) c4
    | tuple ds =>
      obtain ⟨as, rd⟩ := Rp.reads I _ _ _ c2 h r
      cases h
      cases r
      exact repr_of_reads' rd c1 (fun z => by rw [c2] at z; cases z) hg (by omega) (fun _ _ z => z) (fun h' u tk hk => ⟨.str _, H, I.kept hk, ⟨_, rfl⟩, q⟩) c4
    | dict ds => simp [PyData.hasDict] at c2
  · split at e
    · cases e
      cases h with
      | dct ha _ =>
        cases r
        obtain ⟨_, hsm, vs, kv, o, es, ep, ho, hx, hd, _, hes, _⟩ := I.hok _ _ ha
        cases kv
        have he : es = #[] := by
          have q : es.toList = [] := by
            cases e : es.toList with
            | nil => rfl
            | cons a b => rw [e] at hes; cases hes
          simpa using q
        subst he
        refine repr_of_reads' (d := .dict []) (.dict ho hx.1 hd .nil .nil) (by simp [PyData.showable, PyData.showableKv]) (fun _ z => ?_) hg (by simp only [PyData.depth, PyData.depthKv]; omega) (fun _ _ z => z) (fun h' u tk hk => ⟨.str _, H, I.kept hk, ⟨_, rfl⟩, q⟩) ?_
        · simp at z
          rw [z] at hsm
          simp at hsm
        · rw [sizeLine_eq]
          decide +kernel
    · cases e
theorem repr_ok {d z : PyData} {w : V} {k : Kd} {u : Value} {lv : Nat} (hr : RoomG lv X.A) (I : Inv X pins σ H s) (S : Sit T p Fz H st) (h : VT ⟨X.K, p, L⟩ H1 Fz H σ ρ w (.d d) k) (E : ER ⟨X.K, p, L⟩ Fz H σ ρ) (r : RelV w u) (e : biD .repr [d] = some z)
    (q : Done X.K p L T Fz H σ ρ st Q (.d z) (kd z)) : wpAny (model X.prog X.w) X.A (call (.builtin "repr") [u]) (EP X pins σ Q) X.xe s := by
  have hun := hr.r.un
  unfold biD at e
  simp only at e
  split at e
  · rename_i hc
    cases e
    simp only [Bool.and_eq_true, decide_eq_true_eq, Bool.not_eq_true'] at hc
    obtain ⟨⟨⟨c1, c2⟩, c3⟩, c4⟩ := hc
    have c4 : d.shown.length ≤ sizeLine := by rw [sizeLine_eq]; exact c4
    have q : Q (.str d.shown) H := q.flat S (.str _)
    cases d with
    | none =>
      rw [show w = V.non by have h := h.other (fun _ z => by cases z); cases h; rfl] at r
      cases r
      exact PySem.P.repr_of_none ⟨.str _, H, I.tok _, ⟨_, rfl⟩, q⟩
    | bool b => rw [h.bl] at r; cases r; exact PySem.P.repr_of_bool ⟨.str _, H, I.tok _, ⟨_, rfl⟩, q⟩
    | int i =>
      rw [h.int] at r
      obtain ⟨t, rfl⟩ := r
      exact PySem.P.repr_of_int (by simpa [PyData.showable] using c1) ⟨.str _, H, I.tok _, ⟨_, rfl⟩, q⟩
    | str x =>
      rw [h.str] at r
      obtain ⟨t, rfl⟩ := r
      exact PySem.P.repr_of_str ⟨.str _, H, I.tok _, ⟨_, rfl⟩, q⟩ c4
    | list ds =>
      obtain ⟨a, vs, e1, _, _⟩ := h.lstE E
      rw [e1] at r
      obtain ⟨as, rd⟩ := h.reads I E c2 (by rw [e1]; exact r)
      cases r
      exact repr_of_reads' rd c1 (fun z => by rw [c2] at z; cases z) hr.g (by omega) (fun _ _ z => z) (fun h' u tk hk => ⟨.str _, H, I.kept hk, ⟨_, rfl⟩, q⟩) c4
    | tuple ds =>
      obtain ⟨a, vs, e1, _, _⟩ := h.tupS
      rw [e1] at r
      obtain ⟨as, rd⟩ := h.reads I E c2 (by rw [e1]; exact r)
      cases r
      exact repr_of_reads' rd c1 (fun z => by rw [c2] at z; cases z) hr.g (by omega) (fun _ _ z => z) (fun h' u tk hk => ⟨.str _, H, I.kept hk, ⟨_, rfl⟩, q⟩) c4
    | dict ds => simp [PyData.hasDict] at c2
  · split at e
    · cases e
      have q : Q (.str (PyData.shown (.dict []))) H := q.flat S (.str _)
      have h := h.other (fun _ z => by cases z)
      cases h with
      | dct ha _ =>
        cases r
        obtain ⟨_, hsm, vs, kv, o, es, ep, ho, hx, hd, _, hes, _⟩ := I.hok _ _ ha
        cases kv
        have he : es = #[] := by
          have q : es.toList = [] := by
            cases e : es.toList with
            | nil => rfl
            | cons a b => rw [e] at hes; cases hes
          simpa using q
        subst he
        refine repr_of_reads' (d := .dict []) (.dict ho hx.1 hd .nil .nil) (by simp [PyData.showable, PyData.showableKv]) (fun _ z => ?_) hr.g (by simp only [PyData.depth, PyData.depthKv]; omega) (fun _ _ z => z) (fun h' u tk hk => ⟨.str _, H, I.kept hk, ⟨_, rfl⟩, q⟩) ?_
        · simp at z
          rw [z] at hsm
          simp at hsm
        · rw [sizeLine_eq]
          decide +kernel
    · cases e
end
end PyD
namespace PyD
open PySem PySem.Spec PyProof.Rows L2
section
variable {X : Cx} {pins : List (Addr × Obj)} {p : Option Addr} {L : Ls} {T : Tb} {Fz : Addr → Prop} {H H1 H2 : Hp} {st : Pot} {σ : L2.St} {ρ : List Sl} {s : Shared} {Q : VK}
/-- the built-in that is called as it is written -/
def biV : Bi → Option Value
  | .len => some (.builtin "len")
  | .tuple => some (.type "tuple")
  | .list => some (.type "list")
  | .int => some (.type "int")
  | .abs => some (.builtin "abs")
  | .max2 => some (.builtin "max")
  | .min2 => some (.builtin "min")
  | .sum => some (.builtin "sum")
  | .all => some (.builtin "all")
  | .any => some (.builtin "any")
  | .gcd => some (.builtin "math.gcd")
  | .lcm => some (.builtin "math.lcm")
  | .repr => some (.builtin "repr")
  | .sorted => some (.builtin "sorted")
  | .divmod => some (.builtin "divmod")
  | _ => none
theorem each_of : ∀ {vs : List V} {us : List Value} {ds : List PyData}, Vals vs us → Rps X.K Fz H vs ds → PySem.W.EachIs (fun v d => ∃ w, RelV w v ∧ Rp X.K Fz H w d) us ds
  | _, _, _, .nil, .nil => .nil
  | _, _, _, .cons r rs, .cons q qs => .cons ⟨_, r, q⟩ (each_of rs qs)
theorem of_each : ∀ {us : List Value} {ds : List PyData}, PySem.W.EachIs (fun v d => ∃ w, RelV w v ∧ Rp X.K Fz H w d) us ds → ∃ vs, Vals vs us ∧ Rps X.K Fz H vs ds
  | _, _, .nil => ⟨[], .nil, .nil⟩
  | _, _, .cons ⟨w, r, q⟩ t => let ⟨vs, a, b⟩ := of_each t; ⟨w :: vs, .cons r a, .cons q b⟩
theorem each_reads (I : Inv X pins σ H s) : ∀ {us : List Value} {ds : List PyData}, (∀ d ∈ ds, d.hasDict = false) → PySem.W.EachIs (fun v d => ∃ w, RelV w v ∧ Rp X.K Fz H w d) us ds → PySem.W.EachIs (fun v d => ∃ as, Reads s.heap v (id d) as) us ds
  | _, _, _, .nil => .nil
  | _, _, n, .cons ⟨w, r, q⟩ t => .cons (Rp.reads I _ w _ (n _ (by simp)) q r) (each_reads I (fun d h => n d (by simp [h])) t)
mutual
theorem alike_nd : ∀ d : PyData, PySem.W.alike d d = true → d.hasDict = false
  | .none, _ => by simp [PyData.hasDict]
  | .bool _, _ => by simp [PyData.hasDict]
  | .int _, _ => by simp [PyData.hasDict]
  | .str _, _ => by simp [PyData.hasDict]
  | .list xs, h => by
    simp only [PyData.hasDict]
    exact alikes_nd xs (by simpa [PySem.W.alike] using h)
  | .tuple xs, h => by
    simp only [PyData.hasDict]
    exact alikes_nd xs (by simpa [PySem.W.alike] using h)
  | .dict _, h => by simp [PySem.W.alike] at h
theorem alikes_nd : ∀ ds : List PyData, PySem.W.alikeAll ds ds = true → PyData.hasDictAll ds = false
  | [], _ => by simp [PyData.hasDictAll]
  | d :: ds, h => by
    have h' : PySem.W.alike d d = true ∧ PySem.W.alikeAll ds ds = true := by simpa [PySem.W.alikeAll] using h
    simp only [PyData.hasDictAll, alike_nd d h'.1, alikes_nd ds h'.2, Bool.or_false]
end
theorem sorted_ok {ds es : List PyData} {a : Addr} {vs : List V} {lv : Nat} (hr : RoomG lv X.A) (I : Inv X pins σ H s) (S : Sit T p Fz H st) (ha : Rd H a (.lst vs)) (ra : Rps X.K Fz H vs ds) (e : sortD ds = some es)
    (q : Done X.K p L T Fz H σ ρ st Q (.d (.list es)) .fr) : wpAny (model X.prog X.w) X.A (call (.builtin "sorted") [.ref a]) (EP X pins σ Q) X.xe s := by
  have hun := hr.r.un
  unfold sortD at e
  split at e
  · rename_i hs
    cases e
    unfold sortOk at hs
    simp only [Bool.and_eq_true, Bool.or_eq_true, List.all_eq_true, decide_eq_true_eq] at hs
    obtain ⟨⟨hal, hk⟩, hd⟩ := hs
    obtain ⟨its, rv, hl0, hz⟩ := I.list (.inl ha)
    have E1 := each_of (X := X) rv ra
    refine PySem.W.sorted_data (enc := id) (vs := its) (bs := ds) (R := fun v d => ∃ w, RelV w v ∧ Rp X.K Fz H w d) hl0.isList E1 (each_reads I (fun d h => alike_nd d (hal d h d h)) E1) (by rw [List.map_id]; exact hal) ?_ (by rw [← ra.length]; exact hz) (fun b hb => ?_) fun out hl eo => ?_
    · rw [List.map_id]
      rcases hk with hk | hk
      · refine .inl fun d h => ?_
        have z := hk d h
        unfold tupP at z
        split at z
        · exact ⟨_, _, rfl⟩
        · cases z
      · refine .inr fun d h => ?_
        have z := hk d h
        exact ⟨(fun z' => by rw [z'] at z; cases z), (fun xs z' => by rw [z'] at z; cases z)⟩
    · have := hd b hb
      show X.A.units + 2 + b.depth < cLine
      omega
    · obtain ⟨ws, r1, r2⟩ := of_each (X := X) eo
      obtain ⟨ep, he'⟩ := PyProof.Rows.sortedAll_at s.heap its out.toArray
      have hn : H (s.heap.objs.size + 1) = none := I.hok.fresh (Nat.le_succ _)
      refine ⟨.ref _, upd H (s.heap.objs.size + 1) (.lst ws), I.laid (t' := s.toks) (fun _ _ => PyProof.Rows.sortedAll_old) (Nat.le_succ _) ⟨?_, out, ep, r1, he'⟩, rfl, q.lst S hn r2⟩
      rw [r1.length, hl, ← ra.length]
      exact hz
  · cases e
theorem mg_lcm2 {prog : Program} {w : World} {A : Around} {E : Value → Shared → Prop} {s : Shared} {Q : Value → Shared → Prop} {a b : Int} {t u : Tok} (ha : a.natAbs.log2 < 9000) (hb : b.natAbs.log2 < 9000)
    (h : Q (.int ((a.natAbs.lcm b.natAbs : Nat) : Int) s.toks) { s with toks := s.toks + 1 }) : wpAny (model prog w) A (call (.builtin "math.lcm") [.int a t, .int b u]) Q E s := by
  have h1 : a.natAbs < 2 ^ 9001 := Nat.lt_of_lt_of_le (lt_pow_log _) (Nat.pow_le_pow_right (by decide) (by omega))
  have h2 : b.natAbs < 2 ^ 9001 := Nat.lt_of_lt_of_le (lt_pow_log _) (Nat.pow_le_pow_right (by decide) (by omega))
  have one : 1 < 2 ^ 9001 := Nat.one_lt_pow (by decide) (by decide)
  have l1 : (max 1 a.natAbs).log2 ≤ 9000 := PySem.W.mg_log (Nat.max_lt.mpr ⟨one, h1⟩)
  have l2 : (max a.natAbs b.natAbs).log2 ≤ 9000 := PySem.W.mg_log (Nat.max_lt.mpr ⟨h1, h2⟩)
  have hl : ((((Nat.lcm 1 a.natAbs).lcm b.natAbs : Nat) : Int)).natAbs.log2 < bitsLine := by
    have e : (((Nat.lcm 1 a.natAbs).lcm b.natAbs : Nat) : Int).natAbs = a.natAbs.lcm b.natAbs := by rw [PySem.W.mc_lcm_one]; simp
    rw [e]
    have h3 : a.natAbs.lcm b.natAbs < 2 ^ (18002 + 1) := by
      refine Nat.lt_of_le_of_lt (PySem.W.mc_lcm_le _ _) ?_
      calc a.natAbs * b.natAbs < 2 ^ 9001 * 2 ^ 9001 := Nat.mul_lt_mul'' h1 h2
        _ = 2 ^ 18002 := by rw [← Nat.pow_add]
        _ ≤ 2 ^ (18002 + 1) := Nat.pow_le_pow_right (by decide) (by omega)
    have h4 := PySem.W.mg_log h3
    have : 18002 < bitsLine := by decide +kernel
    omega
  refine call_function_meets PySem.W.MGF.kind_lcm PySem.W.MGF.plain_lcm PySem.W.MGF.entry_lcm (PySem.W.MGF.args_lcm _ _) (PySem.W.mg_run_lcm a t b u (by omega) (by omega) hl).meets ?_
  rw [PySem.W.mc_lcm_one]
  exact h
theorem dats_eq : ∀ {as : List (Val × Kd)} {ds : List PyData}, dats (vals as) = some ds → as.map (·.1) = ds.map Val.d
  | [], ds, h => by
    have h : some [] = some ds := h
    cases h; rfl
  | (v, k) :: r, ds, h => by
    have h : dats (v :: vals r) = some ds := h
    unfold dats at h
    split at h
    · rename_i e; cases e
    · rename_i x r' e
      cases e
      obtain ⟨es, h1, h2⟩ := Option.map_eq_some_iff.mp h
      subst h2
      rw [List.map_cons, List.map_cons, dats_eq h1]
    · cases h
theorem VTs.one {ws : List V} {as : List (Val × Kd)} {d : PyData} (h : VTs ⟨X.K, p, L⟩ H1 Fz H σ ρ ws as) (e : dats (vals as) = some [d]) : ∃ w k, ws = [w] ∧ VT ⟨X.K, p, L⟩ H1 Fz H σ ρ w (.d d) k := by
  have e := dats_eq e
  cases h with
  | nil => cases e
  | cons q r =>
    cases r with
    | nil =>
      simp at e
      exact ⟨_, _, rfl, e ▸ q⟩
    | cons _ _ => simp at e
theorem VTs.two {ws : List V} {as : List (Val × Kd)} {d d' : PyData} (h : VTs ⟨X.K, p, L⟩ H1 Fz H σ ρ ws as) (e : dats (vals as) = some [d, d']) : ∃ w w' k k', ws = [w, w'] ∧ VT ⟨X.K, p, L⟩ H1 Fz H σ ρ w (.d d) k ∧ VT ⟨X.K, p, L⟩ H1 Fz H σ ρ w' (.d d') k' := by
  have e := dats_eq e
  cases h with
  | nil => cases e
  | cons q r =>
    cases r with
    | nil => simp at e
    | cons q' r' =>
      cases r' with
      | nil =>
        simp at e
        exact ⟨_, _, _, _, rfl, e.1 ▸ q, e.2 ▸ q'⟩
      | cons _ _ => simp at e
theorem bi_ok {b : Bi} {f : Value} {ws : List V} {us : List Value} {as : List (Val × Kd)} {ds : List PyData} {z : PyData} {lv : Nat} (hr : RoomG lv X.A) (hc : X.calm = true) (I : Inv X pins σ H s) (S : Sit T p Fz H st) (E : ER ⟨X.K, p, L⟩ Fz H σ ρ) (rv : Vals ws us)
    (h : VTs ⟨X.K, p, L⟩ H1 Fz H σ ρ ws as) (ed : dats (vals as) = some ds) (hf : biV b = some f) (e : biD b ds = some z) (q : Done X.K p L T Fz H σ ρ st Q (.d z) (kd z)) : wpAny (model X.prog X.w) X.A (call f us) (EP X pins σ Q) X.xe s := by
  unfold biD at e
  split at e <;> first | cases hf | skip
  · cases e
    obtain ⟨w, k, rfl, g⟩ := h.one ed
    obtain ⟨a, vs, rfl, ha, ra⟩ := g.lstS E
    exact call_len pins s σ H _ us Q I rv ⟨_, vs.length, rfl, .inl ⟨_, ha, rfl⟩, by rw [ra.length]; exact q.flat S (.int _)⟩
  · cases e
    obtain ⟨w, k, rfl, g⟩ := h.one ed
    obtain ⟨a, vs, rfl, ha, ra⟩ := g.tupS
    exact call_len pins s σ H _ us Q I rv ⟨_, vs.length, rfl, .inr ⟨_, ha, rfl⟩, by rw [ra.length]; exact q.flat S (.int _)⟩
  · split at e
    · rename_i hl
      cases e
      obtain ⟨w, k, rfl, g⟩ := h.one ed
      rw [g.str] at rv
      exact call_len pins s σ H _ us Q I rv ⟨_, _, rfl, ⟨by rw [sizeLine_eq]; exact hl, rfl⟩, q.flat S (.int _)⟩
    · cases e
  · cases e
    obtain ⟨w, k, rfl, g⟩ := h.one ed
    obtain ⟨a, vs, rfl, ha, ra⟩ := g.lstS E
    exact call_tuple_of pins s σ H _ us Q I rv ⟨a, vs, rfl, .inl ⟨ha, fun c hc => q.tup S hc ra⟩⟩
  · cases e
    obtain ⟨w, k, rfl, g⟩ := h.one ed
    have h0 := g.other (fun _ z => by cases z)
    obtain ⟨a, vs, rfl, ha, ra⟩ := g.tupS
    exact call_tuple_of pins s σ H _ us Q I rv ⟨a, vs, rfl, .inr ⟨ha, q.flat S h0⟩⟩
  · cases e
    obtain ⟨w, k, rfl, g⟩ := h.one ed
    obtain ⟨a, vs, rfl, ha, ra⟩ := g.lstS E
    exact call_list_of pins s σ H _ us Q I rv ⟨a, vs, rfl, .inl ha, fun c hc => q.lst S hc ra⟩
  · cases e
    obtain ⟨w, k, rfl, g⟩ := h.one ed
    obtain ⟨a, vs, rfl, ha, ra⟩ := g.tupS
    exact call_list_of pins s σ H _ us Q I rv ⟨a, vs, rfl, .inr ha, fun c hc => q.lst S hc ra⟩
  · cases e
    obtain ⟨w, k, rfl, g⟩ := h.one ed
    rw [g.int] at rv
    exact call_int1 pins s σ H _ us Q I rv (.inl ⟨_, rfl, q.flat S (.int _)⟩)
  · cases e
    obtain ⟨w, k, rfl, g⟩ := h.one ed
    rw [g.bl] at rv
    exact call_int1 pins s σ H _ us Q I rv (.inr ⟨_, rfl, q.flat S (.int _)⟩)
  · cases e
    obtain ⟨w, k, rfl, g⟩ := h.one ed
    rw [g.int] at rv
    exact call_abs pins s σ H _ us Q I rv ⟨_, rfl, q.flat S (.int _)⟩
  · cases e
    obtain ⟨w, w', k, k', rfl, g, g'⟩ := h.two ed
    rw [g.int, g'.int] at rv
    exact call_max2 hc pins s σ H _ us Q I rv ⟨_, _, rfl, q.flat S (.int _)⟩
  · cases e
    obtain ⟨w, w', k, k', rfl, g, g'⟩ := h.two ed
    rw [g.int, g'.int] at rv
    exact call_min2 hc pins s σ H _ us Q I rv ⟨_, _, rfl, q.flat S (.int _)⟩
  · obtain ⟨ns, e1, e2⟩ := Option.map_eq_some_iff.mp e
    subst e2
    obtain ⟨w, k, rfl, g⟩ := h.one ed
    obtain ⟨a, vs, rfl, ha, ra⟩ := g.lstS E
    rw [nums_eq e1] at ra
    rw [ra.nums] at ha
    exact cr_sum hc pins s σ H _ us Q I rv ⟨a, ns, rfl, ha, q.flat S (.int _)⟩
  · obtain ⟨ns, e1, e2⟩ := Option.map_eq_some_iff.mp e
    subst e2
    obtain ⟨w, k, rfl, g⟩ := h.one ed
    obtain ⟨a, vs, rfl, ha, ra⟩ := g.lstS E
    rw [flags_eq e1] at ra
    rw [ra.flags] at ha
    exact cr_all hc pins s σ H _ us Q I rv ⟨a, ns, rfl, ha, q.flat S (.bl _)⟩
  · obtain ⟨ns, e1, e2⟩ := Option.map_eq_some_iff.mp e
    subst e2
    obtain ⟨w, k, rfl, g⟩ := h.one ed
    obtain ⟨a, vs, rfl, ha, ra⟩ := g.lstS E
    rw [flags_eq e1] at ra
    rw [ra.flags] at ha
    exact cr_any hc pins s σ H _ us Q I rv ⟨a, ns, rfl, ha, q.flat S (.bl _)⟩
  · cases e
    obtain ⟨w, w', k, k', rfl, g, g'⟩ := h.two ed
    rw [g.int, g'.int] at rv
    exact cr_gcd pins s σ H _ us Q I rv ⟨_, _, rfl, q.flat S (.int _)⟩
  · split at e
    · rename_i hl
      cases e
      obtain ⟨w, w', k, k', rfl, g, g'⟩ := h.two ed
      rw [g.int, g'.int] at rv
      obtain ⟨t, u, rfl⟩ := Vals.int2 rv
      exact mg_lcm2 hl.1 hl.2 ⟨.int _, H, I.tok _, ⟨_, rfl⟩, q.flat S (.int _)⟩
    · cases e
  · rename_i d
    obtain ⟨w, k, rfl, g⟩ := h.one ed
    cases rv with
    | cons r0 rn =>
      cases rn
      exact repr_ok hr I S g E r0 (by unfold biD; exact e) q
  · obtain ⟨es, e1, e2⟩ := Option.map_eq_some_iff.mp e
    subst e2
    obtain ⟨w, k, rfl, g⟩ := h.one ed
    obtain ⟨a, vs, rfl, ha, ra⟩ := g.lstE E
    rw [Vals.ref1 rv]
    exact sorted_ok hr I S ha ra e1 q
  · split at e
    · rename_i hl
      cases e
      obtain ⟨w, w', k, k', rfl, g, g'⟩ := h.two ed
      rw [g.int, g'.int] at rv
      exact call_divmodW pins s σ H _ us Q I rv ⟨_, _, rfl, ⟨hl.1, div_small hl.2⟩, fun c hc => q.tup S hc (.cons (.int _) (.cons (.int _) .nil))⟩
    · cases e
  · cases e
end
end PyD
namespace PyD
open PySem PySem.Spec PyProof.Rows L2
/-- what is fixed through a def -/
structure Zx where
  G : GT
  T : Tb
  p : Option Addr
  L : Ls
  lvL : Nat
structure FnHas (P : Program) (w : World) (K : PySem.W.Frag) (mg : Str → Option Value) (base : Heap) (cs : List ClS) (T : List (Addr × Str)) (lvL : Nat) (F : FnS) : Prop where
  ex : ∃ f fd, mg F.name = some (.ref f) ∧ PySem.W.keepIn K (.ref f) = true ∧ PlainFd fd F.ps ∧ FnG P w K mg base cs T lvL F.lv f fd F.ps F.sem
/-- raising an exception of the class -/
def ClsHas (P : Program) (w : World) (K : PySem.W.Frag) (mg : Str → Option Value) (base : Heap) (C : ClS) : Prop :=
  ∃ a, mg C.name = some (.ref a) ∧ ∀ X : Cx, X.prog = P → X.w = w → X.K = K → X.mg = mg → X.base = base → X.calm = true → Room 3 X.A → Gl X C.name →
    (C.val = true → ∀ (e : Expr) (t : TE) (p pos : Pos), (starEach [e] X.env = (false, eval e X.env) :: starEach [] X.env) → PE X e t → PMk X (.Call (.Name C.name p) [e] [] pos) (fun σ H Q => t σ H fun w H1 => ∀ d, H1 d = none → Q (.ref a) (some d) (upd H1 d (.xd [(Str.ofString "value", w)])))) ∧
    (C.val = false → ∀ (p pos : Pos), PMk X (.Call (.Name C.name p) [] [] pos) (fun σ H Q => Q (.ref a) none H))
/-- what a clause's class makes of a raised one -/
def SubHas (K : PySem.W.Frag) (mg : Str → Option Value) (cs : List ClS) (c' c : Nat) (b : Bool) : Prop :=
  ∃ C C' a a', cs[c']? = some C' ∧ cs[c]? = some C ∧ mg C'.name = some (.ref a') ∧ mg C.name = some (.ref a) ∧ PySem.W.exmOne K (.ref a') (.ref a) = some b ∧ (b = true → XfC K a' ∧ PySem.W.findIn K (.ref a') "value" = some none)
structure Good (Z : Zx) (W : WX) (X : Cx) (lv : Nat) : Prop where
  calm : X.calm = true
  nd : X.N.Nodup
  room : RoomG lv X.A
  fns : ∀ (i : Nat) (F : FnS), Z.G.fns[i]? = some F → F.lv ≤ lv → FnHas X.prog X.w X.K X.mg X.base Z.G.clss Z.T.t Z.lvL F
  consts : ∀ (j : Nat) (c : Str × PyData), Z.G.consts[j]? = some c → ∃ u w, X.mg c.1 = some u ∧ RelV w u ∧ Rp X.K (fun _ => False) nilH w c.2
  clss : ∀ (c : Nat) (C : ClS), Z.G.clss[c]? = some C → ClsHas X.prog X.w X.K X.mg X.base C
  frees : ∀ n ∈ Z.G.frees, X.mg n = none
  bfs : ∀ b ∈ Z.G.bfs, X.mg b.1 = some (.builtin b.2)
  subs : ∀ c' c b, subOf Z.G c' c = some b → SubHas X.K X.mg Z.G.clss c' c b
  tk : Takes X W
  lam : ∀ f m, Z.L.l f m → LamAt X.prog X.w X.K X.mg X.base Z.G.clss Z.T.t Z.p Z.lvL X.outer X.s_0 X.H_0 Z.T.fe f m ∧ X.ex = [] ∧ Z.T.he = X.H_0

section
variable {Z : Zx} {K : PySem.W.Frag} {mg : Str → Option Value} {W : WX} {σ : L2.St} {Fz : Addr → Prop} {H : Hp} {α β : Type}
def Out (Z : Zx) (W : WX) (K : PySem.W.Frag) (mg : Str → Option Value) (σ : L2.St) (Fz : Addr → Prop) (H : Hp) (r : Res α) (q : α → Pot → (Addr → Prop) → Hp → Prop) : Prop := match r with
  | .ok a st => ∀ Fz' H', Ext Z.p Fz H Fz' H' → Sit Z.T Z.p Fz' H' st → q a st Fz' H'
  | .exc c x st => ∀ Fz' H' cls dd, Ext Z.p Fz H Fz' H' → Sit Z.T Z.p Fz' H' st → XR K mg Z.G.clss Fz' H' c x cls dd → W cls dd σ H'
  | .bad => False
theorem Out.bind {r : Res α} {f : α → Pot → Res β} {q : β → Pot → (Addr → Prop) → Hp → Prop} (h : Out Z W K mg σ Fz H (r.bind f) q) : Out Z W K mg σ Fz H r fun a st Fz1 H1 => Ext Z.p Fz H Fz1 H1 ∧ Sit Z.T Z.p Fz1 H1 st ∧ Out Z W K mg σ Fz1 H1 (f a st) q := by
  cases r with
  | ok a st =>
    intro Fz1 H1 e1 s1
    refine ⟨e1, s1, ?_⟩
    have h : Out Z W K mg σ Fz H (f a st) q := h
    cases hf : f a st with
    | ok b st2 =>
      rw [hf] at h
      intro Fz2 H2 e2 s2
      exact h Fz2 H2 (e1.trans e2) s2
    | exc c x st2 =>
      rw [hf] at h
      intro Fz2 H2 cls dd e2 s2 xr
      exact h Fz2 H2 cls dd (e1.trans e2) s2 xr
    | bad => rw [hf] at h; exact h
  | exc c x st => exact h
  | bad => exact h
theorem Out.mono {r : Res α} {q q' : α → Pot → (Addr → Prop) → Hp → Prop} (h : Out Z W K mg σ Fz H r q) (k : ∀ a st Fz1 H1, r = .ok a st → q a st Fz1 H1 → q' a st Fz1 H1) : Out Z W K mg σ Fz H r q' := by
  cases r with
  | ok a st => exact fun Fz1 H1 e s => k a st Fz1 H1 rfl (h Fz1 H1 e s)
  | exc c x st => exact h
  | bad => exact h
theorem Out.bindD {r : Ev} {f : PyData → Pot → Res β} {q : β → Pot → (Addr → Prop) → Hp → Prop} (h : Out Z W K mg σ Fz H (r.bindD f) q) : Out Z W K mg σ Fz H r fun a st Fz1 H1 => Ext Z.p Fz H Fz1 H1 ∧ Sit Z.T Z.p Fz1 H1 st ∧ ∃ x, a.1 = .d x ∧ Out Z W K mg σ Fz1 H1 (f x st) q := by
  refine Out.mono (Out.bind h) fun a st Fz1 H1 _ ⟨e, s, o⟩ => ⟨e, s, ?_⟩
  obtain ⟨v, k⟩ := a
  cases v with
  | d x => exact ⟨x, rfl, o⟩
  | pot => exact (show False from o).elim
  | lam m => exact (show False from o).elim
  | lams m => exact (show False from o).elim
theorem Out.shift {r : Res α} {q : α → Pot → (Addr → Prop) → Hp → Prop} {Fz1 : Addr → Prop} {H1 : Hp} (h : Out Z W K mg σ Fz H r q) (e : Ext Z.p Fz H Fz1 H1) : Out Z W K mg σ Fz1 H1 r q := by
  cases r with
  | ok a st => exact fun Fz2 H2 e2 s2 => h Fz2 H2 (e.trans e2) s2
  | exc c x st => exact fun Fz2 H2 cls dd e2 s2 xr => h Fz2 H2 cls dd (e.trans e2) s2 xr
  | bad => exact h
/-- new lists are different lists -/
def Dis : List V → List (Val × Kd) → Prop
  | w :: ws, (_, k) :: as => (k = .fr → ∀ x ∈ ws.zip as, x.2.2 = .fr → x.1 ≠ w) ∧ Dis ws as
  | _, _ => True
theorem VTs.fr {R : Rc} {H0 H : Hp} {Fz : Addr → Prop} {σ : L2.St} {ρ : List Sl} : ∀ {ws : List V} {as : List (Val × Kd)}, VTs R H0 Fz H σ ρ ws as → ∀ x ∈ ws.zip as, x.2.2 = .fr → ∃ a, x.1 = .ref a ∧ H0 a = none
  | _, _, .nil, _, h, _ => by simp at h
  | _, _, .cons (k := k) q r, x, h, e => by
    rw [List.zip_cons_cons] at h
    rcases List.mem_cons.mp h with z | z
    · subst z
      have e : k = .fr := e
      subst e
      obtain ⟨a, vs, ds, e1, _, _, _, _, e6, _⟩ := q
      exact ⟨a, e1, e6⟩
    · exact r.fr x z e
theorem Dis.cons {R : Rc} {H0 H1 H' : Hp} {Fz Fz' : Addr → Prop} {σ : L2.St} {ρ : List Sl} {w : V} {a : Val × Kd} {ws : List V} {as : List (Val × Kd)} (v : VT R H0 Fz H1 σ ρ w a.1 a.2) (vs : VTs R H1 Fz' H' σ ρ ws as) (d : Dis ws as) : Dis (w :: ws) (a :: as) := by
  refine ⟨fun e x hx hk z => ?_, d⟩
  obtain ⟨b, e1, e2⟩ := vs.fr x hx hk
  rw [e] at v
  obtain ⟨c, us, ds, f1, _, f3, _⟩ := v
  rw [f1, e1] at z
  cases z
  rw [e2] at f3; cases f3
/-- the reading of an expression -/
def rdE (Z : Zx) (W : WX) (K : PySem.W.Frag) (mg : Str → Option Value) (x : Ex) : TE := fun σ H Q => ∃ Fz ρ st, Sit Z.T Z.p Fz H st ∧ ER ⟨K, Z.p, Z.L⟩ Fz H σ ρ ∧
  Out Z W K mg σ Fz H (ev Z.G x ρ st) fun a st' Fz' H' => ∀ w, VT ⟨K, Z.p, Z.L⟩ H Fz' H' σ ρ w a.1 a.2 → Q w H'
def rdT (Z : Zx) (W : WX) (K : PySem.W.Frag) (mg : Str → Option Value) (x : Te) : TT := fun σ H Q => ∃ Fz ρ st, Sit Z.T Z.p Fz H st ∧ ER ⟨K, Z.p, Z.L⟩ Fz H σ ρ ∧
  Out Z W K mg σ Fz H (evT Z.G x ρ st) fun b st' Fz' H' => Q b H'
def rdA (Z : Zx) (W : WX) (K : PySem.W.Frag) (mg : Str → Option Value) (x : Exs) : TA := fun σ H Q => ∃ Fz ρ st, Sit Z.T Z.p Fz H st ∧ ER ⟨K, Z.p, Z.L⟩ Fz H σ ρ ∧
  Out Z W K mg σ Fz H (evs Z.G x ρ st) fun as st' Fz' H' => ∀ ws, VTs ⟨K, Z.p, Z.L⟩ H Fz' H' σ ρ ws as → Dis ws as → Q ws H'
end

section
variable {Z : Zx} {W : WX} {X : Cx} {lv : Nat} {pins : List (Addr × Obj)} {s : Shared} {σ : L2.St} {H : Hp} {Fz : Addr → Prop} {ρ : List Sl} {st : Pot} {e : Expr} {β : Type}
abbrev rc (Z : Zx) (X : Cx) : Rc := ⟨X.K, Z.p, Z.L⟩
/-- an expression, then what its value is taken for -/
theorem seqE {x : Ex} {f : Val × Kd → Pot → Res β} {q : β → Pot → (Addr → Prop) → Hp → Prop} {Φ : Value → Shared → Prop} (he : PE X e (rdE Z W X.K X.mg x)) (I : Inv X pins σ H s) (S : Sit Z.T Z.p Fz H st) (E : ER (rc Z X) Fz H σ ρ)
    (h : Out Z W X.K X.mg σ Fz H ((ev Z.G x ρ st).bind f) q)
    (k : ∀ u s1 w a st1 Fz1 H1, Inv X pins σ H1 s1 → RelV w u → Ext Z.p Fz H Fz1 H1 → Sit Z.T Z.p Fz1 H1 st1 → ER (rc Z X) Fz1 H1 σ ρ → VT (rc Z X) H Fz1 H1 σ ρ w a.1 a.2 → ev Z.G x ρ st = .ok a st1 → Out Z W X.K X.mg σ Fz1 H1 (f a st1) q → Φ u s1) :
    wpAny (model X.prog X.w) X.A (eval e X.env) Φ X.xe s := by
  refine thn (he.run pins s σ H (fun w H1 => ∃ a st1 Fz1, Ext Z.p Fz H Fz1 H1 ∧ Sit Z.T Z.p Fz1 H1 st1 ∧ VT (rc Z X) H Fz1 H1 σ ρ w a.1 a.2 ∧ ev Z.G x ρ st = .ok a st1 ∧ Out Z W X.K X.mg σ Fz1 H1 (f a st1) q) I
    ⟨Fz, ρ, st, S, E, Out.mono (Out.bind h) fun a st1 Fz1 H1 er ⟨e1, s1, o⟩ w v => ⟨a, st1, Fz1, e1, s1, v, er, o⟩⟩) fun u s1 ⟨w, H1, I1, r1, a, st1, Fz1, e1, S1, v, er, o⟩ => ?_
  exact k u s1 w a st1 Fz1 H1 I1 r1 e1 S1 (E.ext S e1) v er o
theorem seqD {x : Ex} {f : PyData → Pot → Res β} {q : β → Pot → (Addr → Prop) → Hp → Prop} {Φ : Value → Shared → Prop} (he : PE X e (rdE Z W X.K X.mg x)) (I : Inv X pins σ H s) (S : Sit Z.T Z.p Fz H st) (E : ER (rc Z X) Fz H σ ρ)
    (h : Out Z W X.K X.mg σ Fz H ((ev Z.G x ρ st).bindD f) q)
    (k : ∀ u s1 w d kx st1 Fz1 H1, Inv X pins σ H1 s1 → RelV w u → Ext Z.p Fz H Fz1 H1 → Sit Z.T Z.p Fz1 H1 st1 → ER (rc Z X) Fz1 H1 σ ρ → VT (rc Z X) H Fz1 H1 σ ρ w (.d d) kx → Out Z W X.K X.mg σ Fz1 H1 (f d st1) q → Φ u s1) :
    wpAny (model X.prog X.w) X.A (eval e X.env) Φ X.xe s := by
  refine seqE he I S E h fun u s1 w a st1 Fz1 H1 I1 r1 e1 S1 E1 v er o => ?_
  obtain ⟨x', kx⟩ := a
  cases x' with
  | d d => exact k u s1 w d kx st1 Fz1 H1 I1 r1 e1 S1 E1 v o
  | pot => exact (show False from o).elim
  | lam m => exact (show False from o).elim
  | lams m => exact (show False from o).elim
theorem seqA' {x : Exs} {es : List Expr} {pos : Pos} {f : List (Val × Kd) → Pot → Res β} {q : β → Pot → (Addr → Prop) → Hp → Prop} {Φ : List Value → Shared → Prop} (he : PA X es (rdA Z W X.K X.mg x)) (I : Inv X pins σ H s) (S : Sit Z.T Z.p Fz H st) (E : ER (rc Z X) Fz H σ ρ)
    (h : Out Z W X.K X.mg σ Fz H ((evs Z.G x ρ st).bind f) q)
    (k : ∀ us s1 ws as st1 Fz1 H1, Inv X pins σ H1 s1 → Vals ws us → Ext Z.p Fz H Fz1 H1 → Sit Z.T Z.p Fz1 H1 st1 → ER (rc Z X) Fz1 H1 σ ρ → VTs (rc Z X) H Fz1 H1 σ ρ ws as → evs Z.G x ρ st = .ok as st1 → Dis ws as → Out Z W X.K X.mg σ Fz1 H1 (f as st1) q → Φ us s1) :
    wpAny (model X.prog X.w) X.A (spliced (backTo pos (starEach es X.env))) Φ X.xe s := by
  refine thn (he.run pos pins s σ H (fun ws H1 => ∃ as st1 Fz1, Ext Z.p Fz H Fz1 H1 ∧ Sit Z.T Z.p Fz1 H1 st1 ∧ VTs (rc Z X) H Fz1 H1 σ ρ ws as ∧ Dis ws as ∧ evs Z.G x ρ st = .ok as st1 ∧ Out Z W X.K X.mg σ Fz1 H1 (f as st1) q) I
    ⟨Fz, ρ, st, S, E, Out.mono (Out.bind h) fun a st1 Fz1 H1 er ⟨e1, s1, o⟩ w v dd => ⟨a, st1, Fz1, e1, s1, v, dd, er, o⟩⟩) fun us s1 ⟨ws, H1, I1, r1, as, st1, Fz1, e1, S1, v, dd, er, o⟩ => ?_
  exact k us s1 ws as st1 Fz1 H1 I1 r1 e1 S1 (E.ext S e1) v er dd o
theorem seqA {x : Exs} {es : List Expr} {pos : Pos} {f : List (Val × Kd) → Pot → Res β} {q : β → Pot → (Addr → Prop) → Hp → Prop} {Φ : List Value → Shared → Prop} (he : PA X es (rdA Z W X.K X.mg x)) (I : Inv X pins σ H s) (S : Sit Z.T Z.p Fz H st) (E : ER (rc Z X) Fz H σ ρ)
    (h : Out Z W X.K X.mg σ Fz H ((evs Z.G x ρ st).bind f) q)
    (k : ∀ us s1 ws as st1 Fz1 H1, Inv X pins σ H1 s1 → Vals ws us → Ext Z.p Fz H Fz1 H1 → Sit Z.T Z.p Fz1 H1 st1 → ER (rc Z X) Fz1 H1 σ ρ → VTs (rc Z X) H Fz1 H1 σ ρ ws as → evs Z.G x ρ st = .ok as st1 → Out Z W X.K X.mg σ Fz1 H1 (f as st1) q → Φ us s1) :
    wpAny (model X.prog X.w) X.A (spliced (backTo pos (starEach es X.env))) Φ X.xe s :=
  seqA' he I S E h fun us s1 ws as st1 Fz1 H1 I1 r1 e1 S1 E1 v er _ o => k us s1 ws as st1 Fz1 H1 I1 r1 e1 S1 E1 v er o
theorem seqT {x : Te} {f : Bool → Pot → Res β} {q : β → Pot → (Addr → Prop) → Hp → Prop} {Φ : Bool → Shared → Prop} (he : PT X e (rdT Z W X.K X.mg x)) (I : Inv X pins σ H s) (S : Sit Z.T Z.p Fz H st) (E : ER (rc Z X) Fz H σ ρ)
    (h : Out Z W X.K X.mg σ Fz H ((evT Z.G x ρ st).bind f) q)
    (k : ∀ b s1 st1 Fz1 H1, Inv X pins σ H1 s1 → Ext Z.p Fz H Fz1 H1 → Sit Z.T Z.p Fz1 H1 st1 → ER (rc Z X) Fz1 H1 σ ρ → Out Z W X.K X.mg σ Fz1 H1 (f b st1) q → Φ b s1) :
    wpAny (model X.prog X.w) X.A (isTrue e X.env (eval e X.env)) Φ X.xe s := by
  refine thn (he.run pins s σ H (fun b H1 => ∃ st1 Fz1, Ext Z.p Fz H Fz1 H1 ∧ Sit Z.T Z.p Fz1 H1 st1 ∧ Out Z W X.K X.mg σ Fz1 H1 (f b st1) q) I
    ⟨Fz, ρ, st, S, E, Out.mono (Out.bind h) fun a st1 Fz1 H1 er ⟨e1, s1, o⟩ => ⟨st1, Fz1, e1, s1, o⟩⟩) fun b s1 ⟨H1, I1, st1, Fz1, e1, S1, o⟩ => ?_
  exact k b s1 st1 Fz1 H1 I1 e1 S1 (E.ext S e1) o
/-- at the end: what is wanted of the value -/
theorem Ext.fresh {p : Option Addr} {Fz Fz' : Addr → Prop} {H H' : Hp} (e : Ext p Fz H Fz' H') : ∀ a, H' a = none → H a = none := fun a h => by
  cases q : H a with
  | none => rfl
  | some o =>
    obtain ⟨o', e'⟩ := e.there a o q
    rw [h] at e'; cases e'
theorem Out.done {H0 : Hp} {Q : VK} {v : Val × Kd} {st1 : Pot} (h : Out Z W X.K X.mg σ Fz H (.ok v st1 : Ev) fun a st' Fz' H' => ∀ w, VT (rc Z X) H0 Fz' H' σ ρ w a.1 a.2 → Q w H') (b : ∀ a, H a = none → H0 a = none) : Done X.K Z.p Z.L Z.T Fz H σ ρ st1 Q v.1 v.2 :=
  fun Fz' H' w e s t => h Fz' H' e s w (t.base b)
theorem Out.doneK {H0 : Hp} {Q : VK} {d : Option PyData} {st1 : Pot} (h : Out Z W X.K X.mg σ Fz H (okK d st1) fun a st' Fz' H' => ∀ w, VT (rc Z X) H0 Fz' H' σ ρ w a.1 a.2 → Q w H') (b : ∀ a, H a = none → H0 a = none) : ∃ z, d = some z ∧ Done X.K Z.p Z.L Z.T Fz H σ ρ st1 Q (.d z) (kd z) := by
  cases d with
  | none => exact h.elim
  | some z => exact ⟨z, rfl, Out.done (v := (.d z, kd z)) h b⟩
theorem Out.doneC {H0 : Hp} {Q : VK} {d : Option PyData} {st1 : Pot} (h : Out Z W X.K X.mg σ Fz H (okC d st1) fun a st' Fz' H' => ∀ w, VT (rc Z X) H0 Fz' H' σ ρ w a.1 a.2 → Q w H') (b : ∀ a, H a = none → H0 a = none) : ∃ z, d = some z ∧ Done X.K Z.p Z.L Z.T Fz H σ ρ st1 Q (.d z) .cl := by
  cases d with
  | none => exact h.elim
  | some z => exact ⟨z, rfl, Out.done (v := (.d z, .cl)) h b⟩
theorem Out.doneD {H0 : Hp} {Q : VK} {z : PyData} {st1 : Pot} (h : Out Z W X.K X.mg σ Fz H (okD z st1) fun a st' Fz' H' => ∀ w, VT (rc Z X) H0 Fz' H' σ ρ w a.1 a.2 → Q w H') (b : ∀ a, H a = none → H0 a = none) : Done X.K Z.p Z.L Z.T Fz H σ ρ st1 Q (.d z) .cl := Out.done (v := (.d z, .cl)) h b
end
end PyD
namespace PyD
open PySem PySem.Spec PyProof.Rows L2
section
variable {Z : Zx} {W : WX} {X : Cx} {lv : Nat} {a b c e : Expr} {xa xb xc : Ex} {pos p2 : Pos}
theorem k_bin {o : Bo} (g : Good Z W X lv) (ha : PE X a (rdE Z W X.K X.mg xa)) (hb : PE X b (rdE Z W X.K X.mg xb)) : PE X (.BinOp a (opB o) b pos) (rdE Z W X.K X.mg (.bin o xa xb)) := by
  refine ⟨fun pins s σ H Q I ⟨Fz, ρ, st, S, E, h⟩ => ?_⟩
  simp only [ev] at h
  refine wpAny_BinOp (seqD ha I S E h fun v s1 w1 d1 k1 st1 Fz1 H1 I1 r1 e1 S1 E1 v1 h1 => seqD hb I1 S1 E1 h1 fun u s2 w2 d2 k2 st2 Fz2 H2 I2 r2 e2 S2 E2 v2 h2 => ?_)
  obtain ⟨z, hz, q⟩ := Out.doneK h2 (fun a h => e1.fresh a (e2.fresh a h))
  exact bin_ok I2 S2 E2 r1 r2 (v1.move S1 e2) v2 hz q
theorem k_neg (g : Good Z W X lv) (ha : PE X a (rdE Z W X.K X.mg xa)) : PE X (.UnaryOp .USub a pos) (rdE Z W X.K X.mg (.neg xa)) := by
  refine ⟨fun pins s σ H Q I ⟨Fz, ρ, st, S, E, h⟩ => ?_⟩
  simp only [ev] at h
  refine UnaryOp_ (seqD ha I S E h fun v s1 w1 d1 k1 st1 Fz1 H1 I1 r1 e1 S1 E1 v1 h1 => ?_)
  split at h1
  · have q := Out.doneD h1 e1.fresh
    rw [v1.int] at r1
    exact un_neg pins s1 σ H1 _ v Q I1 r1 ⟨_, rfl, q.flat S1 (.int _)⟩
  · exact h1.elim
theorem k_not (g : Good Z W X lv) (ha : PE X a (rdE Z W X.K X.mg xa)) : PE X (.UnaryOp .Not a pos) (rdE Z W X.K X.mg (.nott xa)) := by
  refine ⟨fun pins s σ H Q I ⟨Fz, ρ, st, S, E, h⟩ => ?_⟩
  simp only [ev] at h
  refine UnaryOp_ (seqD ha I S E h fun v s1 w1 d1 k1 st1 Fz1 H1 I1 r1 e1 S1 E1 v1 h1 => ?_)
  split at h1
  · have q := Out.doneD h1 e1.fresh
    rw [v1.bl] at r1
    cases r1
    exact not_of (wpAny_truthy_bool ⟨.bl _, H1, I1, rfl, q.flat S1 (.bl _)⟩)
  · exact h1.elim
theorem k_ite {t : Expr} {xt : Te} (g : Good Z W X lv) (ht : PT X t (rdT Z W X.K X.mg xt)) (ha : PE X a (rdE Z W X.K X.mg xa)) (hb : PE X b (rdE Z W X.K X.mg xb)) : PE X (.IfExp t a b pos) (rdE Z W X.K X.mg (.ite xt xa xb)) := by
  refine ⟨fun pins s σ H Q I ⟨Fz, ρ, st, S, E, h⟩ => ?_⟩
  simp only [ev] at h
  refine wpAny_IfExp (seqT ht I S E h fun k s1 st1 Fz1 H1 I1 e1 S1 E1 h1 => ?_)
  cases k with
  | true => exact ha.run pins s1 σ H1 Q I1 ⟨Fz1, ρ, st1, S1, E1, Out.mono h1 fun v st2 Fz2 H2 _ q w v2 => q w (v2.base e1.fresh)⟩
  | false => exact hb.run pins s1 σ H1 Q I1 ⟨Fz1, ρ, st1, S1, E1, Out.mono h1 fun v st2 Fz2 H2 _ q w v2 => q w (v2.base e1.fresh)⟩
theorem k_and {rest : List Expr} (g : Good Z W X lv) (ha : PE X a (rdE Z W X.K X.mg xa)) (hb : PE X (.BoolOp .And (b :: rest) pos) (rdE Z W X.K X.mg xb)) : PE X (.BoolOp .And (a :: b :: rest) pos) (rdE Z W X.K X.mg (.and xa xb)) := by
  refine ⟨fun pins s σ H Q I ⟨Fz, ρ, st, S, E, h⟩ => ?_⟩
  simp only [ev] at h
  refine BoolOp_and (seqD ha I S E h fun v s1 w1 d1 k1 st1 Fz1 H1 I1 r1 e1 S1 E1 v1 h1 => ?_)
  split at h1
  · rw [v1.bl] at r1
    cases r1
    exact wpAny_truthy_bool (hb.run pins s1 σ H1 Q I1 ⟨Fz1, ρ, st1, S1, E1, Out.mono h1 fun v st2 Fz2 H2 _ q w v2 => q w (v2.base e1.fresh)⟩)
  · have q := Out.doneD h1 e1.fresh
    rw [v1.bl] at r1
    cases r1
    exact wpAny_truthy_bool ⟨.bl false, H1, I1, rfl, q.flat S1 (.bl _)⟩
  · exact h1.elim
theorem k_or {rest : List Expr} (g : Good Z W X lv) (ha : PE X a (rdE Z W X.K X.mg xa)) (hb : PE X (.BoolOp .Or (b :: rest) pos) (rdE Z W X.K X.mg xb)) : PE X (.BoolOp .Or (a :: b :: rest) pos) (rdE Z W X.K X.mg (.or xa xb)) := by
  refine ⟨fun pins s σ H Q I ⟨Fz, ρ, st, S, E, h⟩ => ?_⟩
  simp only [ev] at h
  refine BoolOp_or (seqD ha I S E h fun v s1 w1 d1 k1 st1 Fz1 H1 I1 r1 e1 S1 E1 v1 h1 => ?_)
  split at h1
  · rw [v1.bl] at r1
    cases r1
    exact wpAny_truthy_bool (hb.run pins s1 σ H1 Q I1 ⟨Fz1, ρ, st1, S1, E1, Out.mono h1 fun v st2 Fz2 H2 _ q w v2 => q w (v2.base e1.fresh)⟩)
  · have q := Out.doneD h1 e1.fresh
    rw [v1.bl] at r1
    cases r1
    exact wpAny_truthy_bool ⟨.bl true, H1, I1, rfl, q.flat S1 (.bl _)⟩
  · exact h1.elim
theorem k_cmp {o : Co} (g : Good Z W X lv) (ha : PE X a (rdE Z W X.K X.mg xa)) (hb : PE X b (rdE Z W X.K X.mg xb)) (hm : behindInMarks (opC o) b = false) : PE X (.Compare a [opC o] [b] pos) (rdE Z W X.K X.mg (.cmp o xa xb)) := by
  refine ⟨fun pins s σ H Q I ⟨Fz, ρ, st, S, E, h⟩ => ?_⟩
  simp only [ev] at h
  refine wpAny_Compare1 (seqD ha I S E h fun v s1 w1 d1 k1 st1 Fz1 H1 I1 r1 e1 S1 E1 v1 h1 => seqD hb I1 S1 E1 h1 fun u s2 w2 d2 k2 st2 Fz2 H2 I2 r2 e2 S2 E2 v2 h2 => ?_) hm
  obtain ⟨z, hz, q⟩ := Out.doneC h2 (fun a h => e1.fresh a (e2.fresh a h))
  obtain ⟨k, hk, rfl⟩ := Option.map_eq_some_iff.mp hz
  exact cmp_ok g.room I2 S2 E2 r1 r2 (v1.move S1 e2) v2 hk (q.flat S2 (.bl _))
theorem k_cmpT {o : Co} (g : Good Z W X lv) (ha : PE X a (rdE Z W X.K X.mg xa)) (hb : PE X b (rdE Z W X.K X.mg xb)) (hm : behindInMarks (opC o) b = false) : PT X (.Compare a [opC o] [b] pos) (rdT Z W X.K X.mg (.val (.cmp o xa xb))) := by
  refine ⟨fun pins s σ H Q I ⟨Fz, ρ, st, S, E, h⟩ => ?_⟩
  have h : Out Z W X.K X.mg σ Fz H ((ev Z.G xa ρ st).bindD fun x st => (ev Z.G xb ρ st).bindD fun y st => match cmpD o x y with | some k => (.ok k st : Res Bool) | none => .bad) fun b st' Fz' H' => Q b H' := by
    have e : evT Z.G (.val (.cmp o xa xb)) ρ st = ((ev Z.G xa ρ st).bindD fun x st => (ev Z.G xb ρ st).bindD fun y st => match cmpD o x y with | some k => (.ok k st : Res Bool) | none => .bad) := by
      simp only [evT, ev]
      cases ev Z.G xa ρ st with
      | ok v st1 =>
        obtain ⟨v, k⟩ := v
        cases v with
        | d x =>
          show ((ev Z.G xb ρ st1).bindD _).bindD _ = (ev Z.G xb ρ st1).bindD _
          cases ev Z.G xb ρ st1 with
          | ok v st2 =>
            obtain ⟨v, k⟩ := v
            cases v with
            | d y =>
              show Res.bindD (okC ((cmpD o x y).map .bool) st2) _ = match cmpD o x y with | some k => (.ok k st2 : Res Bool) | none => .bad
              cases cmpD o x y <;> rfl
            | pot => rfl
            | lam m => rfl
            | lams m => rfl
          | exc c x st2 => rfl
          | bad => rfl
        | pot => rfl
        | lam m => rfl
        | lams m => rfl
      | exc c x st1 => rfl
      | bad => rfl
    rw [← e]
    exact h
  refine wpAny_isTrue_Compare1 (seqD ha I S E h fun v s1 w1 d1 k1 st1 Fz1 H1 I1 r1 e1 S1 E1 v1 h1 => seqD hb I1 S1 E1 h1 fun u s2 w2 d2 k2 st2 Fz2 H2 I2 r2 e2 S2 E2 v2 h2 => ?_) hm
  split at h2
  · rename_i k hk
    refine thn (cmp_ok (Q := fun w H3 => w = .bl k ∧ H3 = H2) g.room I2 S2 E2 r1 r2 (v1.move S1 e2) v2 hk ⟨rfl, rfl⟩) fun v3 s3 ⟨w3, H3, I3, r3, q3⟩ => ?_
    obtain ⟨rfl, rfl⟩ := q3
    cases r3
    exact wpAny_truthy_bool ⟨H3, I3, h2 Fz2 H3 Ext.refl S2⟩
  · exact h2.elim
end
end PyD
namespace PyD
open PySem PySem.Spec PyProof.Rows L2
section
variable {Z : Zx} {W : WX} {X : Cx} {lv : Nat} {a b c e : Expr} {xa xb xc : Ex} {pos p2 : Pos}
theorem k_cmp2 {o o' : Co} (g : Good Z W X lv) (ha : PE X a (rdE Z W X.K X.mg xa)) (hb : PE X b (rdE Z W X.K X.mg xb)) (hc : PE X c (rdE Z W X.K X.mg xc)) (hm : lastMarks [opC o, opC o'] [b, c] = false) :
    PE X (.Compare a [opC o, opC o'] [b, c] pos) (rdE Z W X.K X.mg (.cmp2 o o' xa xb xc)) := by
  refine ⟨fun pins s σ H Q I ⟨Fz, ρ, st, S, E, h⟩ => ?_⟩
  simp only [ev] at h
  refine Compare_chain (seqD ha I S E h fun v s1 w1 d1 k1 st1 Fz1 H1 I1 r1 e1 S1 E1 v1 h1 => chain_link (seqD hb I1 S1 E1 h1 fun u s2 w2 d2 k2 st2 Fz2 H2 I2 r2 e2 S2 E2 v2 h2 => ?_)) hm
  split at h2
  · rename_i hk
    refine thn (cmp_ok (Q := fun w H3 => w = .bl true ∧ H3 = H2) g.room I2 S2 E2 r1 r2 (v1.move S1 e2) v2 hk ⟨rfl, rfl⟩) fun v3 s3 ⟨w3, H3, I3, r3, q3⟩ => ?_
    obtain ⟨rfl, rfl⟩ := q3
    cases r3
    refine wpAny_truthy_bool (ite_tt (chain_last (seqD hc I3 S2 E2 h2 fun u' s4 w4 d4 k4 st4 Fz4 H4 I4 r4 e4 S4 E4 v4 h4 => ?_)))
    obtain ⟨z, hz, q⟩ := Out.doneC h4 (fun a h => e1.fresh a (e2.fresh a (e4.fresh a h)))
    obtain ⟨k, hk, rfl⟩ := Option.map_eq_some_iff.mp hz
    exact cmp_ok g.room I4 S4 E4 r2 r4 (v2.move S2 e4) v4 hk (q.flat S4 (.bl _))
  · rename_i hk
    have q := Out.doneD h2 (fun a h => e1.fresh a (e2.fresh a h))
    refine thn (cmp_ok (Q := fun w H3 => w = .bl false ∧ H3 = H2) g.room I2 S2 E2 r1 r2 (v1.move S1 e2) v2 hk ⟨rfl, rfl⟩) fun v3 s3 ⟨w3, H3, I3, r3, q3⟩ => ?_
    obtain ⟨rfl, rfl⟩ := q3
    cases r3
    exact wpAny_truthy_bool (ite_ff ⟨.bl false, H3, I3, rfl, q.flat S2 (.bl _)⟩)
  · exact h2.elim
theorem evT_cmp2 (G : GT) (o o' : Co) (xa xb xc : Ex) (ρ : List Sl) (st : Pot) : evT G (.val (.cmp2 o o' xa xb xc)) ρ st = (ev G xa ρ st).bindD fun x st => (ev G xb ρ st).bindD fun y st => match cmpD o x y with
    | some true => (ev G xc ρ st).bindD fun z st => match cmpD o' y z with | some k => (.ok k st : Res Bool) | none => .bad
    | some false => .ok false st
    | none => .bad := by
  have bd : ∀ {β : Type} (r : Ev) (f : PyData → Pot → Ev) (f' : PyData → Pot → Res β) (k : PyData → Pot → Res β), (∀ x st, (f x st).bindD k = f' x st) → (r.bindD f).bindD k = r.bindD f' := by
    intro β r f f' k hf
    cases r with
    | ok v st1 =>
      obtain ⟨v, kk⟩ := v
      cases v with
      | d x => exact hf x st1
      | pot => rfl
      | lam m => rfl
      | lams m => rfl
    | exc c x st1 => rfl
    | bad => rfl
  simp only [evT, ev]
  refine bd _ _ _ _ fun x st => bd _ _ _ _ fun y st => ?_
  cases cmpD o x y with
  | none => rfl
  | some k =>
    cases k with
    | false => rfl
    | true =>
      refine bd _ _ _ _ fun z st => ?_
      cases cmpD o' y z <;> rfl
theorem k_cmp2T {o o' : Co} (g : Good Z W X lv) (ha : PE X a (rdE Z W X.K X.mg xa)) (hb : PE X b (rdE Z W X.K X.mg xb)) (hc : PE X c (rdE Z W X.K X.mg xc)) (hm : lastMarks [opC o, opC o'] [b, c] = false) :
    PT X (.Compare a [opC o, opC o'] [b, c] pos) (rdT Z W X.K X.mg (.val (.cmp2 o o' xa xb xc))) := by
  refine ⟨fun pins s σ H Q I ⟨Fz, ρ, st, S, E, h⟩ => ?_⟩
  rw [evT_cmp2] at h
  refine isTrue_chain (seqD ha I S E h fun v s1 w1 d1 k1 st1 Fz1 H1 I1 r1 e1 S1 E1 v1 h1 => test_link (seqD hb I1 S1 E1 h1 fun u s2 w2 d2 k2 st2 Fz2 H2 I2 r2 e2 S2 E2 v2 h2 => ?_)) hm
  split at h2
  · rename_i hk
    refine thn (cmp_ok (Q := fun w H3 => w = .bl true ∧ H3 = H2) g.room I2 S2 E2 r1 r2 (v1.move S1 e2) v2 hk ⟨rfl, rfl⟩) fun v3 s3 ⟨w3, H3, I3, r3, q3⟩ => ?_
    obtain ⟨rfl, rfl⟩ := q3
    cases r3
    refine wpAny_truthy_bool (ite_tt (test_last (seqD hc I3 S2 E2 h2 fun u' s4 w4 d4 k4 st4 Fz4 H4 I4 r4 e4 S4 E4 v4 h4 => ?_)))
    split at h4
    · rename_i k hk
      refine thn (cmp_ok (Q := fun w H3 => w = .bl k ∧ H3 = H4) g.room I4 S4 E4 r2 r4 (v2.move S2 e4) v4 hk ⟨rfl, rfl⟩) fun v5 s5 ⟨w5, H5, I5, r5, q5⟩ => ?_
      obtain ⟨rfl, rfl⟩ := q5
      cases r5
      exact wpAny_truthy_bool ⟨H5, I5, h4 Fz4 H5 Ext.refl S4⟩
    · exact h4.elim
  · rename_i hk
    refine thn (cmp_ok (Q := fun w H3 => w = .bl false ∧ H3 = H2) g.room I2 S2 E2 r1 r2 (v1.move S1 e2) v2 hk ⟨rfl, rfl⟩) fun v3 s3 ⟨w3, H3, I3, r3, q3⟩ => ?_
    obtain ⟨rfl, rfl⟩ := q3
    cases r3
    exact wpAny_truthy_bool (ite_ff ⟨H3, I3, h2 Fz2 H3 Ext.refl S2⟩)
  · exact h2.elim
/-- is None -/
theorem isN_ok {K : PySem.W.Frag} {p : Option Addr} {L : Ls} {H0 : Hp} {Fz : Addr → Prop} {H : Hp} {σ : L2.St} {ρ : List Sl} {w : V} {d : PyData} {k : Kd} (h : VT ⟨K, p, L⟩ H0 Fz H σ ρ w (.d d) k) (E : ER ⟨K, p, L⟩ Fz H σ ρ) : decide (w = .non) = isNoneD d := by
  cases d with
  | none =>
    have h := h.other (fun _ z => by cases z)
    cases h; rfl
  | list ds =>
    obtain ⟨a, vs, e1, _⟩ := h.lstE E
    rw [e1]; rfl
  | bool b =>
    have e := h.bl
    rw [e]; rfl
  | int i =>
    have e := h.int
    rw [e]; rfl
  | str x =>
    have e := h.str
    rw [e]; rfl
  | tuple ds =>
    obtain ⟨a, vs, e1, _⟩ := h.tupS
    rw [e1]; rfl
  | dict ds =>
    have h := h.other (fun _ z => by cases z)
    cases h; rfl
theorem c_isN {j : Nat} {p3 : Pos} (g : Good Z W X lv) (ha : PE X a (rdE Z W X.K X.mg xa)) : PC X .Is a (.Constant .none j p3) (rdE Z W X.K X.mg (.isN xa)) := by
  refine ⟨fun pins s σ H Q I ⟨Fz, ρ, st, S, E, h⟩ => ?_⟩
  simp only [ev] at h
  refine seqD ha I S E h fun v s1 w1 d1 k1 st1 Fz1 H1 I1 r1 e1 S1 E1 v1 h1 => ?_
  have q := Out.doneD h1 e1.fresh
  exact Constant_none (is_none_gen ⟨.bl _, H1, I1, by rw [r1.none_iff, isN_ok v1 E1]; rfl, q.flat S1 (.bl _)⟩)
theorem c_notN {j : Nat} {p3 : Pos} (g : Good Z W X lv) (ha : PE X a (rdE Z W X.K X.mg xa)) : PC X .IsNot a (.Constant .none j p3) (rdE Z W X.K X.mg (.notN xa)) := by
  refine ⟨fun pins s σ H Q I ⟨Fz, ρ, st, S, E, h⟩ => ?_⟩
  simp only [ev] at h
  refine seqD ha I S E h fun v s1 w1 d1 k1 st1 Fz1 H1 I1 r1 e1 S1 E1 v1 h1 => ?_
  have q := Out.doneD h1 e1.fresh
  exact Constant_none (isnot_none_gen ⟨.bl _, H1, I1, by rw [r1.none_iff, isN_ok v1 E1]; rfl, q.flat S1 (.bl _)⟩)
/-- as a test -/
theorem k_val {x : Ex} (h : PT X e (tB (rdE Z W X.K X.mg x))) : PT X e (rdT Z W X.K X.mg (.val x)) := by
  refine ⟨fun pins s σ H Q I ⟨Fz, ρ, st, S, E, o⟩ => ?_⟩
  simp only [evT] at o
  refine h.run pins s σ H Q I ⟨Fz, ρ, st, S, E, ?_⟩
  refine Out.mono (Out.bindD o) fun v st1 Fz1 H1 _ ⟨e1, S1, d, ed, o1⟩ w v1 => ?_
  obtain ⟨v, k⟩ := v
  simp only at ed
  subst ed
  split at o1
  · exact ⟨_, v1.bl, o1 Fz1 H1 Ext.refl S1⟩
  · exact o1.elim
/-! ### constants, names -/
theorem k_int {i : Int} {j : Nat} (g : Good Z W X lv) : PE X (.Constant (.int i) j pos) (rdE Z W X.K X.mg (.cst (.int i))) :=
  ⟨fun pins s σ H Q I ⟨Fz, ρ, st, S, E, h⟩ => pe_int.run pins s σ H Q I (h Fz H Ext.refl S _ (Rp.int i))⟩
theorem k_bool {i : Bool} {j : Nat} (g : Good Z W X lv) : PE X (.Constant (.bool i) j pos) (rdE Z W X.K X.mg (.cst (.bool i))) :=
  ⟨fun pins s σ H Q I ⟨Fz, ρ, st, S, E, h⟩ => pe_bl.run pins s σ H Q I (h Fz H Ext.refl S _ (Rp.bl i))⟩
theorem k_none {j : Nat} (g : Good Z W X lv) : PE X (.Constant .none j pos) (rdE Z W X.K X.mg (.cst .none)) :=
  ⟨fun pins s σ H Q I ⟨Fz, ρ, st, S, E, h⟩ => pe_non.run pins s σ H Q I (h Fz H Ext.refl S _ Rp.non)⟩
theorem k_str {i : Str} {j : Nat} (g : Good Z W X lv) : PE X (.Constant (.str i) j pos) (rdE Z W X.K X.mg (.cst (.str i))) :=
  ⟨fun pins s σ H Q I ⟨Fz, ρ, st, S, E, h⟩ => pe_str.run pins s σ H Q I (h Fz H Ext.refl S _ (Rp.str i))⟩
theorem k_var {i : Nat} {x : Str} (g : Good Z W X lv) (hN : X.N[i]? = some x) (hv : Vis X.env.scope x) (hd : (x == ("__debug__" : Str)) = false) (hcd : (x == ("__classdict__" : Str)) = false) : PE X (.Name x pos) (rdE Z W X.K X.mg (.var i)) := by
  refine ⟨fun pins s σ H Q I ⟨Fz, ρ, st, S, E, h⟩ => ?_⟩
  simp only [ev] at h
  split at h
  · rename_i v hv'
    obtain ⟨w, e1, e2⟩ := E.val i v hv'
    exact (pe_var hN hv hd hcd).run pins s σ H Q I ⟨w, e1, h Fz H Ext.refl S w e2⟩
  · rename_i ds hv'
    obtain ⟨a, vs, e1, e2, e3, e4, e5⟩ := E.own i ds hv'
    exact (pe_var hN hv hd hcd).run pins s σ H Q I ⟨_, e1, h Fz H Ext.refl S _ ⟨i, ds, hv', e1, rfl⟩⟩
  · exact h.elim
theorem k_glb {j : Nat} {c : Str × PyData} (g : Good Z W X lv) (hj : Z.G.consts[j]? = some c) (hg : Gl X c.1) (hd : (c.1 == ("__debug__" : Str)) = false) : PE X (.Name c.1 pos) (rdE Z W X.K X.mg (.glb j)) := by
  refine ⟨fun pins s σ H Q I ⟨Fz, ρ, st, S, E, h⟩ => ?_⟩
  simp only [ev, hj] at h
  obtain ⟨u, w, e1, e2, e3⟩ := g.consts j c hj
  exact (pe_glob hg e1 e2 hd).run pins s σ H Q I (h Fz H Ext.refl S w (Rp.move (fun _ z => z.elim) (fun _ _ z => z.elim) e3))
/-! ### displays -/
theorem a_nil (g : Good Z W X lv) : PA X [] (rdA Z W X.K X.mg .nil) :=
  ⟨fun pos pins s σ H Q I ⟨Fz, ρ, st, S, E, h⟩ => pa_nil.run pos pins s σ H Q I (h Fz H Ext.refl S [] .nil trivial)⟩
theorem VTs.move {K : PySem.W.Frag} {p : Option Addr} {L : Ls} {T : Tb} {H0 H H' : Hp} {Fz Fz' : Addr → Prop} {σ : L2.St} {ρ : List Sl} {st : Pot} (s : Sit T p Fz H st) (e : Ext p Fz H Fz' H') : ∀ {ws : List V} {as : List (Val × Kd)}, VTs ⟨K, p, L⟩ H0 Fz H σ ρ ws as → VTs ⟨K, p, L⟩ H0 Fz' H' σ ρ ws as
  | _, _, .nil => .nil
  | _, _, .cons q r => .cons (q.move s e) (r.move s e)
theorem VTs.base {K : PySem.W.Frag} {p : Option Addr} {L : Ls} {H0 H1 H : Hp} {Fz : Addr → Prop} {σ : L2.St} {ρ : List Sl} (b : ∀ a, H1 a = none → H0 a = none) : ∀ {ws : List V} {as : List (Val × Kd)}, VTs ⟨K, p, L⟩ H1 Fz H σ ρ ws as → VTs ⟨K, p, L⟩ H0 Fz H σ ρ ws as
  | _, _, .nil => .nil
  | _, _, .cons q r => .cons (q.base b) (r.base b)
theorem a_cons {es : List Expr} {xs : Exs} (g : Good Z W X lv) (ha : PE X a (rdE Z W X.K X.mg xa)) (hr : PA X es (rdA Z W X.K X.mg xs)) (hs : starEach (a :: es) X.env = (false, eval a X.env) :: starEach es X.env) : PA X (a :: es) (rdA Z W X.K X.mg (.cons xa xs)) := by
  refine ⟨fun pos pins s σ H Q I ⟨Fz, ρ, st, S, E, h⟩ => ?_⟩
  simp only [evs] at h
  rw [hs]
  show wpAny _ _ (spliced ((false, eval a X.env) :: backTo pos (starEach es X.env))) _ _ s
  refine Calls.spliced_cons (seqE ha I S E h fun v s1 w1 a1 st1 Fz1 H1 I1 r1 e1 S1 E1 v1 _ h1 => seqA' hr I1 S1 E1 h1 fun us s2 ws as st2 Fz2 H2 I2 r2 e2 S2 E2 v2 _ dd h2 => ?_)
  exact ⟨w1 :: ws, H2, I2, .cons r1 r2, h2 Fz2 H2 Ext.refl S2 _ (.cons (v1.move S1 e2) (v2.base e1.fresh)) (Dis.cons v1 v2 dd)⟩
end
end PyD
namespace PyD
open PySem PySem.Spec PyProof.Rows L2
section
variable {K : PySem.W.Frag} {p : Option Addr} {L : Ls} {T : Tb} {H0 H : Hp} {Fz : Addr → Prop} {σ : L2.St} {ρ : List Sl} {st : Pot}
/-- what is made so far is frozen -/
structure Frozen (T : Tb) (p : Option Addr) (H0 : Hp) (Fz : Addr → Prop) (H : Hp) (st : Pot) (Fz' : Addr → Prop) : Prop where
  sub : ∀ a, Fz a → Fz' a
  new : ∀ a, Fz' a → Fz a ∨ H0 a = none
  sit : Sit T p Fz' H st
theorem Frozen.ext {F0 Fz' : Addr → Prop} (f : Frozen T p H0 Fz H st Fz') (e : Ext p F0 H0 Fz H) : Ext p F0 H0 Fz' H :=
  ⟨fun a h => f.sub a (e.fz a h), e.keep, fun a h => (f.new a h).elim (e.new a) .inr, e.there⟩
theorem VT.clean {w : V} {x : Val} {k : Kd} (s : Sit T p Fz H st) (h : VT ⟨K, p, L⟩ H0 Fz H σ ρ w x k) (hk : k ≠ .ow) : ∃ Fz', Frozen T p H0 Fz H st Fz' ∧ VR ⟨K, p, L⟩ Fz' H w x := by
  cases k with
  | cl => exact ⟨Fz, ⟨fun _ z => z, fun _ z => .inl z, s⟩, h⟩
  | ow => exact absurd rfl hk
  | fr =>
    obtain ⟨a, vs, ds, rfl, rfl, e3, e4, e5, e6, e7⟩ := h
    refine ⟨fun b => Fz b ∨ b = a, ⟨fun _ z => .inl z, fun b z => z.imp id fun e => by rw [e]; exact e6, ⟨fun q e => ?_, fun b z => ?_, s.tabs, s.ent, s.pres, fun a z => .inl (s.fe a z)⟩⟩, Rp.lst (.inl e3) (.inr rfl) (e7.move (fun _ z => .inl z) fun _ _ _ z => z)⟩
    · obtain ⟨h1, h2⟩ := s.pot q e
      exact ⟨h1, fun z => z.elim h2 fun e' => e5 (by rw [← e']; exact e)⟩
    · rcases z with z | z
      · exact s.fz b z
      · exact ⟨_, by rw [z]; exact e3, fun ps z => by cases z⟩
theorem Frozen.trans {F1 F2 : Addr → Prop} (a : Frozen T p H0 Fz H st F1) (b : Frozen T p H0 F1 H st F2) : Frozen T p H0 Fz H st F2 :=
  ⟨fun x h => b.sub x (a.sub x h), fun x h => (b.new x h).elim (a.new x) .inr, b.sit⟩
theorem VTs.clean (s : Sit T p Fz H st) : ∀ {ws : List V} {as : List (Val × Kd)}, VTs ⟨K, p, L⟩ H0 Fz H σ ρ ws as → as.all isCl = true → ∃ Fz', Frozen T p H0 Fz H st Fz' ∧ VRs ⟨K, p, L⟩ Fz' H ws (vals as)
  | _, _, .nil, _ => ⟨Fz, ⟨fun _ z => z, fun _ z => .inl z, s⟩, .nil⟩
  | _, _, .cons (k := k) q r, h => by
    have h' := h
    simp only [List.all_cons, Bool.and_eq_true] at h'
    have hk : k ≠ .ow := fun e => by
      rw [e] at h'
      exact absurd h'.1 (by simp [isCl])
    obtain ⟨F1, f1, q1⟩ := q.clean s hk
    obtain ⟨F2, f2, r2⟩ := VTs.clean s r h'.2
    refine ⟨fun a => F1 a ∨ F2 a, ⟨fun a z => .inl (f1.sub a z), fun a z => z.elim (f1.new a) (f2.new a), ⟨fun q e => ?_, fun a z => z.elim (f1.sit.fz a) (f2.sit.fz a), s.tabs, s.ent, s.pres, fun a z => .inl (f1.sit.fe a z)⟩⟩, .cons (q1.move (fun _ z => .inl z) fun _ _ _ z => z) (r2.move (fun _ z => .inr z) fun _ _ _ z => z)⟩
    exact ⟨(s.pot q e).1, fun z => z.elim (f1.sit.pot q e).2 (f2.sit.pot q e).2⟩
theorem VRs.data : ∀ {ws : List V} {as : List (Val × Kd)} {ds : List PyData}, VRs ⟨K, p, L⟩ Fz H ws (vals as) → dats (vals as) = some ds → Rps K Fz H ws ds
  | _, [], ds, h, e => by
    have e : some [] = some ds := e
    cases e
    cases h
    exact .nil
  | _, (v, k) :: as, ds, h, e => by
    have e : dats (v :: vals as) = some ds := e
    unfold dats at e
    split at e
    · rename_i z; cases z
    · rename_i x r' z
      cases z
      obtain ⟨es, h1, h2⟩ := Option.map_eq_some_iff.mp e
      subst h2
      have h : VRs ⟨K, p, L⟩ Fz H _ (Val.d x :: vals as) := h
      cases h with
      | cons q r => exact .cons q (VRs.data r h1)
    · cases e
end
section
variable {Z : Zx} {W : WX} {X : Cx} {lv : Nat} {a b c e : Expr} {xa xb xc : Ex} {pos p2 : Pos}
theorem VTs.length {R : Rc} {H0 : Hp} {Fz : Addr → Prop} {H : Hp} {σ : L2.St} {ρ : List Sl} : ∀ {ws : List V} {as : List (Val × Kd)}, VTs R H0 Fz H σ ρ ws as → ws.length = as.length
  | _, _, .nil => rfl
  | _, _, .cons _ r => by rw [List.length_cons, List.length_cons, r.length]
theorem k_tup {es : List Expr} {xs : Exs} {kk : Nat} (g : Good Z W X lv) (ha : PA X es (rdA Z W X.K X.mg xs)) : PE X (.Tuple es kk pos) (rdE Z W X.K X.mg (.tup xs)) := by
  refine ⟨fun pins s σ H Q I ⟨Fz, ρ, st, S, E, h⟩ => ?_⟩
  simp only [ev] at h
  refine wpAny_Tuple_spliced (seqA ha I S E h fun us s1 ws as st1 Fz1 H1 I1 r1 e1 S1 E1 v1 er h1 => ?_)
  have h0 : Out Z W X.K X.mg σ Fz H (if (as.all isCl && decide (as.length ≤ 1000)) = true then okC ((dats (vals as)).map .tuple) st1 else .bad) fun a st' Fz' H' => ∀ w, VT (rc Z X) H Fz' H' σ ρ w a.1 a.2 → Q w H' := by
    rw [er] at h
    exact h
  split at h0
  · rename_i hc
    simp only [Bool.and_eq_true, decide_eq_true_eq] at hc
    obtain ⟨F2, f2, r2⟩ := v1.clean S1 hc.1
    have e2 := f2.ext e1
    obtain ⟨z, hz, q⟩ := Out.doneC (Out.shift h0 e2) e2.fresh
    obtain ⟨ds, hd, rfl⟩ := Option.map_eq_some_iff.mp hz
    have hf : H1 s1.heap.objs.size = none := I1.fresh
    have hl : us.length ≤ sizeLine := by
      rw [← Paired.length r1, v1.length, sizeLine_eq]
      omega
    refine ⟨hl, .ref s1.heap.objs.size, upd H1 s1.heap.objs.size (.tup ws), I1.laid (t' := s1.toks) (fun b u e => Heap.get?_push_of_some _ e) (Nat.le_refl _) ?_, rfl, q.tup f2.sit hf (r2.data hd)⟩
    exact ⟨by rw [Paired.length r1]; exact hl, us, r1, ⟨_, Heap.get?_push_size _ rfl, rfl, _, rfl⟩⟩
  · exact h0.elim
theorem k_lst {es : List Expr} {xs : Exs} (g : Good Z W X lv) (ha : PA X es (rdA Z W X.K X.mg xs)) : PE X (.List es pos) (rdE Z W X.K X.mg (.lst xs)) := by
  refine ⟨fun pins s σ H Q I ⟨Fz, ρ, st, S, E, h⟩ => ?_⟩
  simp only [ev] at h
  refine wpAny_List_spliced (seqA ha I S E h fun us s1 ws as st1 Fz1 H1 I1 r1 e1 S1 E1 v1 er h1 => ?_)
  have h0 : Out Z W X.K X.mg σ Fz H (if (as.all isCl && decide (as.length ≤ 1000)) = true then okK ((dats (vals as)).map .list) st1 else .bad) fun a st' Fz' H' => ∀ w, VT (rc Z X) H Fz' H' σ ρ w a.1 a.2 → Q w H' := by
    rw [er] at h
    exact h
  split at h0
  · rename_i hc
    simp only [Bool.and_eq_true, decide_eq_true_eq] at hc
    obtain ⟨F2, f2, r2⟩ := v1.clean S1 hc.1
    have e2 := f2.ext e1
    obtain ⟨z, hz, q⟩ := Out.doneK (Out.shift h0 e2) e2.fresh
    obtain ⟨ds, hd, rfl⟩ := Option.map_eq_some_iff.mp hz
    have hf : H1 s1.heap.objs.size = none := I1.fresh
    have hl : us.length ≤ sizeLine := by
      rw [← Paired.length r1, v1.length, sizeLine_eq]
      omega
    refine ⟨hl, .ref s1.heap.objs.size, upd H1 s1.heap.objs.size (.lst ws), I1.laid (t' := s1.toks) (fun b u e => Heap.get?_push_of_some _ e) (Nat.le_refl _) ?_, rfl, q.lst f2.sit hf (r2.data hd)⟩
    exact ⟨by rw [Paired.length r1]; exact hl, us, 0, r1, Heap.get?_push_size _ rfl⟩
  · exact h0.elim
theorem k_dct (g : Good Z W X lv) : PE X (.Dict [] [] pos) (rdE Z W X.K X.mg .dct) := by
  refine ⟨fun pins s σ H Q I ⟨Fz, ρ, st, S, E, h⟩ => ?_⟩
  refine pe_dnewK.run pins s σ H Q I fun d hd => ?_
  exact h (fun b => Fz b ∨ b = d) _ (Ext.updF hd) (S.updF hd fun ps z => by cases z) _ (Rp.dct upd_same (.inr rfl))
/-- a list, a tuple at a place -/
theorem k_idx (g : Good Z W X lv) (ha : PE X a (rdE Z W X.K X.mg xa)) (hb : PE X b (rdE Z W X.K X.mg xb)) (hs : PlainIx b) : PE X (.Subscript a b pos) (rdE Z W X.K X.mg (.idx xa xb)) := by
  refine ⟨fun pins s σ H Q I ⟨Fz, ρ, st, S, E, h⟩ => ?_⟩
  simp only [ev] at h
  split at h
  · rename_i hp
    -- the pot
    obtain ⟨k, rfl⟩ : ∃ k, xa = .var k := by
      cases xa <;> first | exact ⟨_, rfl⟩ | (exfalso; revert hp; simp [isPot]; done)
    · have hk : ρ[k]? = some (Sl.v .pot) := by
        unfold isPot at hp
        simp only at hp
        split at hp
        · assumption
        · cases hp
      · have hev : ev Z.G (.var k) ρ st = .ok (.pot, .cl) st := by simp only [ev, hk]
        have h2 := h
        have h3 : Out Z W X.K X.mg σ Fz H ((ev Z.G (.var k) ρ st).bind fun _ st => (ev Z.G xb ρ st).bindD fun y st => match y with | .int 0 => okD (.int st.1) st | .int 1 => okD (.int st.2) st | _ => .bad) fun a st' Fz' H' => ∀ w, VT (rc Z X) H Fz' H' σ ρ w a.1 a.2 → Q w H' := by
          rw [hev]
          exact h2
        refine Subscript_ (seqE ha I S E h3 fun v s1 w1 a1 st1 Fz1 H1 I1 r1 e1 S1 E1 v1 er h1 => ?_)
        rw [hev] at er
        cases er
        obtain ⟨q0, hq, rfl⟩ := (show ∃ q, Z.p = some q ∧ w1 = .ref q from v1)
        refine seqD hb I1 S1 E1 h1 fun u s2 w2 d2 k2 st2 Fz2 H2 I2 r2 e2 S2 E2 v2 h4 => ?_
        obtain ⟨hl, _⟩ := S2.pot q0 hq
        split at h4
        · have q := Out.doneD h4 (fun a h => e1.fresh a (e2.fresh a h))
          exact rIxL_or _ _ pins s2 σ H2 _ w2 v u Q I2 r1 r2 (.inl ⟨q0, _, 0, _, rfl, v2.int, SqL.of hl, rfl, q.flat S2 (.int _)⟩) (hs _ _)
        · have q := Out.doneD h4 (fun a h => e1.fresh a (e2.fresh a h))
          exact rIxL_or _ _ pins s2 σ H2 _ w2 v u Q I2 r1 r2 (.inl ⟨q0, _, 1, _, rfl, v2.int, SqL.of hl, rfl, q.flat S2 (.int _)⟩) (hs _ _)
        · exact h4.elim
  · refine Subscript_ (seqD ha I S E h fun v s1 w1 d1 k1 st1 Fz1 H1 I1 r1 e1 S1 E1 v1 h1 => seqD hb I1 S1 E1 h1 fun u s2 w2 d2 k2 st2 Fz2 H2 I2 r2 e2 S2 E2 v2 h2 => ?_)
    obtain ⟨z, hz, q⟩ := Out.doneC h2 (fun a h => e1.fresh a (e2.fresh a h))
    exact rIxL_or _ _ pins s2 σ H2 w1 w2 v u Q I2 r1 r2 (idx_at S2 E2 (v1.move S1 e2) v2 hz q) (hs _ _)
end
end PyD
namespace PyD
open PySem PySem.Spec PyProof.Rows L2
theorem forIn_bind {ps : List Str} {f : Str × Value → List (Str × Value) × List (Str × Value) → Sem (ForInStep (List (Str × Value) × List (Str × Value)))}
    (hf : ∀ k v sl e, ps.contains k = true → (sl.lookup k).isSome = false → f (k, v) (sl, e) = pure (.yield (sl ++ [(k, v)], e))) :
    ∀ (kws sl e : List (Str × Value)), (∀ x ∈ kws, ps.contains x.1 = true) → (sl.map (·.1) ++ kws.map (·.1)).Nodup → forIn kws (sl, e) f = pure (sl ++ kws, e)
  | [], sl, e, _, _ => by rw [List.forIn_nil, List.append_nil]
  | (k, v) :: r, sl, e, h, n => by
    have hk : (sl.lookup k).isSome = false := by
      cases q : sl.lookup k with
      | none => rfl
      | some z =>
        have hm : k ∈ sl.map (·.1) := List.mem_map.mpr ⟨(k, z), PySem.mem_of_lookup q, rfl⟩
        exact absurd rfl ((List.nodup_append.mp n).2.2 k hm k (by simp))
    rw [List.forIn_cons, hf k v sl e (h (k, v) (List.mem_cons_self ..)) hk]
    have ih := forIn_bind hf r (sl ++ [(k, v)]) e (fun x hx => h x (List.mem_cons_of_mem _ hx)) (by simpa using n)
    simp only [List.append_assoc, List.singleton_append] at ih
    exact ih
theorem bind_plain {fd : FuncData} {ps : List Str} (h : PlainFd fd ps) (us : List Value) (kws : List (Str × Value)) (hl : us.length ≤ ps.length) (ha : ∀ x ∈ kws, ps.contains x.1 = true) (hn : ((ps.zip us).map (·.1) ++ kws.map (·.1)).Nodup)
    (hs : ∀ n ∈ ps, ((ps.zip us ++ kws).lookup n).isSome = true) : bindArgs fd ⟨us, kws⟩ = pure (ps.filterMap fun n => ((ps.zip us ++ kws).lookup n).map (n, ·)) := by
  obtain ⟨h1, h2, h3, h4, h5, h6, h7⟩ := h
  unfold bindArgs
  simp only [h1, h2, h3, h4, h5, h6, List.map_nil, List.nil_append, List.append_nil]
  rw [forIn_bind (ps := ps) (fun k v sl e hk hs => by
    simp only [hk, hs, Bool.true_or, if_true, Bool.false_eq_true, if_false]) kws _ _ ha hn]
  have hm : (ps.filter fun n => ((ps.zip us ++ kws).lookup n).isNone) = [] := by
    rw [List.filter_eq_nil_iff]
    intro n hn'
    have := hs n hn'
    cases q : (ps.zip us ++ kws).lookup n with
    | none => rw [q] at this; cases this
    | some z => simp
  have hg : ¬ us.length > ps.length := by omega
  simp only [pure_bind, seqItems?, Option.getD_none, hg, decide_false, Bool.false_and, Bool.false_eq_true, if_false, List.drop_nil, List.length_nil, Nat.sub_zero, List.take_length, hm, List.isEmpty_nil, Bool.not_true, List.drop_length, List.zip_nil_left, List.forIn_nil, List.zip_nil_right]
  simp only [notAStandIn, pure_bind, Option.getD_none, List.length_nil, Nat.zero_sub, List.drop_nil, Nat.sub_zero, List.take_length, hm, List.isEmpty_nil, Bool.not_true, Bool.false_eq_true, if_false, List.zip_nil_right, List.forIn_nil]
theorem zip_get {α β : Type} [BEq α] [LawfulBEq α] : ∀ {ns : List α} {vs : List β} {j : Nat} {x : α}, ns.Nodup → ns[j]? = some x → (ns.zip vs).lookup x = vs[j]?
  | [], _, _, _, _, h => by simp at h
  | n :: ns, [], j, x, _, h => by simp
  | n :: ns, v :: vs, 0, x, _, h => by
    have e : n = x := by simpa using h
    subst e
    simp
  | n :: ns, v :: vs, j + 1, x, hn, h => by
    have h' : ns[j]? = some x := by simpa using h
    have ne : (x == n) = false := by
      rw [beq_eq_false_iff_ne]
      intro e
      rw [e] at h'
      exact (List.nodup_cons.mp hn).1 (List.mem_of_getElem? h')
    rw [List.zip_cons_cons, List.lookup_cons, ne]
    simpa using zip_get (List.nodup_cons.mp hn).2 h'
/-- what the parameters' order makes of the written order -/
theorem perm_zip {vs : List Value} {ns : List Str} (hn : ns.Nodup) (hl : vs.length = ns.length) : ∀ {pm : List Nat} {ps : List Str}, pm.map (ns[·]?) = ps.map some → (ps.filterMap fun n => ((ns.zip vs).lookup n).map (n, ·)) = ps.zip (pm.filterMap (vs[·]?))
  | [], [], _ => rfl
  | [], p :: ps, h => by simp at h
  | i :: pm, [], h => by simp at h
  | i :: pm, p :: ps, h => by
    simp only [List.map_cons, List.cons.injEq] at h
    have e := zip_get (vs := vs) hn h.1
    have hi : i < vs.length := by
      rw [hl]
      exact (List.getElem?_eq_some_iff.mp h.1).1
    have e2 : vs[i]? = some vs[i] := List.getElem?_eq_getElem hi
    rw [e2] at e
    rw [List.filterMap_cons, e, List.filterMap_cons, e2]
    simp only [Option.map_some, List.zip_cons_cons]
    rw [perm_zip hn hl h.2]
theorem fm_zip {f : Str → Option Value} : ∀ {l : List Str} {us : List Value}, l.length = us.length → (∀ (i : Nat) (x : Str), l[i]? = some x → f x = us[i]?) → (l.filterMap fun n => (f n).map (n, ·)) = l.zip us
  | [], [], _, _ => rfl
  | [], _ :: _, h, _ => by cases h
  | _ :: _, [], h, _ => by cases h
  | n :: l, u :: us, h, k => by
    have e : f n = some u := k 0 n rfl
    rw [List.filterMap_cons, e]
    simp only [Option.map_some, List.zip_cons_cons]
    rw [fm_zip (by simpa using h) fun i x hx => k (i + 1) x (by simpa using hx)]
theorem binds_pos {fd : FuncData} {ps : List Str} (h : PlainFd fd ps) {us : List Value} (hl : us.length = ps.length) : bindArgs fd ⟨us, []⟩ = pure (ps.zip us) := by
  have hk : ∀ n ∈ ps, ((ps.zip us).lookup n).isSome = true := fun n hn => by
    obtain ⟨i, hi, e⟩ := List.getElem_of_mem hn
    rw [zip_get h.2.2.2.2.2.2 (List.getElem?_eq_some_iff.mpr ⟨hi, e⟩), List.getElem?_eq_getElem (by omega)]
    rfl
  rw [bind_plain h us [] (by omega) (by simp) (by rw [List.map_nil, List.append_nil, List.map_fst_zip (by omega)]; exact h.2.2.2.2.2.2) (by simpa using hk), List.append_nil]
  rw [fm_zip hl.symm fun i x hx => zip_get h.2.2.2.2.2.2 hx]
/-- the keyword call's check -/
def kwOk (ps : List Str) (n : Nat) (ks : List Str) (pm : List Nat) : Bool :=
  decide (n ≤ ps.length) && decide ((ps.take n ++ ks).Nodup) && decide (pm.map ((ps.take n ++ ks)[·]?) = ps.map some) && ks.all (ps.contains ·)
theorem binds_kw {fd : FuncData} {ps : List Str} (h : PlainFd fd ps) {us ws : List Value} {ks : List Str} {pm : List Nat} (c : kwOk ps us.length ks pm = true) (hw : ws.length = ks.length) : bindArgs fd ⟨us, ks.zip ws⟩ = pure (ps.zip (pm.filterMap ((us ++ ws)[·]?))) := by
  unfold kwOk at c
  simp only [Bool.and_eq_true, decide_eq_true_eq, List.all_eq_true] at c
  obtain ⟨⟨⟨c1, c2⟩, c3⟩, c4⟩ := c
  have ez : ps.zip us ++ ks.zip ws = (ps.take us.length ++ ks).zip (us ++ ws) := by
    rw [List.zip_append (by rw [List.length_take]; omega)]
    congr 1
    rw [List.zip_eq_zip_take_min (l₁ := ps) (l₂ := us), Nat.min_eq_right c1, List.take_length]
  have hn : ((ps.take us.length ++ ks).zip (us ++ ws)).map (·.1) = ps.take us.length ++ ks := List.map_fst_zip (by simp; omega)
  have hlen : (us ++ ws).length = (ps.take us.length ++ ks).length := by
    simp only [List.length_append, List.length_take]
    omega
  rw [bind_plain h us _ c1 (fun x hx => c4 x.1 (List.of_mem_zip (show (x.1, x.2) ∈ _ from hx)).1) (by rw [← List.map_append, ez, hn]; exact c2) (fun n hn' => ?_)]
  · rw [ez, perm_zip c2 hlen c3]
  · rw [ez]
    have hm : some n ∈ pm.map ((ps.take us.length ++ ks)[·]?) := by
      rw [c3]
      exact List.mem_map.mpr ⟨n, hn', rfl⟩
    obtain ⟨j, _, e⟩ := List.mem_map.mp hm
    rw [zip_get c2 e, List.getElem?_eq_getElem (by rw [hlen]; exact (List.getElem?_eq_some_iff.mp e).1)]
    rfl
end PyD
namespace PyD
open PySem PySem.Spec PyProof.Rows L2
/-- what is there ahead is held over more frames, too: the new frame is new -/
theorem Un.into {X : Cx} {pins : List (Addr × Obj)} {σ : L2.St} {H H1 H2 : Hp} {s : Shared} {h2 : Heap} (I : Inv X pins σ H1 s) (he : X.ex = []) (u : Un (frs X.stack) [] H1 H2 s.heap h2) : Un (frs X.outer) [] X.H_0 H2 X.s_0.heap h2 := by
  have b : Un X.fs [] X.H_0 H1 X.s_0.heap s.heap := by
    have b := I.base
    rw [he] at b
    exact b
  have old : ∀ {c : Addr} {o : Obj}, X.s_0.heap.get? c = some o → c ∉ frs X.outer → c ∉ frs X.stack := fun {c o} q hc z => by
    rcases List.mem_cons.mp (I.stkSub _ z) with e | e
    · have h1 := I.ok.above
      rw [← e] at h1
      exact Nat.lt_irrefl _ (Nat.lt_of_lt_of_le (Heap.lt_size q) h1)
    · exact hc e
  refine ⟨fun c o q n hc hx => ?_, fun c o q n hc hx => ?_, fun c o q n hx => ?_, fun c o q hx => ?_, fun c xs q => u.tups c xs (b.tups c xs q), fun c o v q => u.frzs c o v (b.frzs c o v q), fun c ps q => ?_⟩
  · exact u.keep c o (b.keep c o q n hc hx) (b.free c o q n hx) (old q hc) hx
  · obtain ⟨sl, e1⟩ := b.slot c o q n hc hx
    by_cases hs : c ∈ frs X.stack
    · obtain ⟨sl2, e2⟩ := u.slot c _ e1 (b.free c o q n hx) hs hx
      exact ⟨sl2, e2⟩
    · exact ⟨sl, u.keep c _ e1 (b.free c o q n hx) hs hx⟩
  · obtain ⟨o', e1⟩ := b.there c o q hx
    exact u.free c o' e1 (b.free c o q n hx) hx
  · obtain ⟨o', e1⟩ := b.there c o q hx
    exact u.there c o' e1 hx
  · obtain ⟨m1, e1⟩ := b.tbls c ps q
    obtain ⟨m2, e2⟩ := u.tbls c _ e1
    exact ⟨m1 ++ m2, by rw [e2, Array.append_assoc]⟩
section
variable {Z : Zx} {W : WX} {X : Cx} {lv : Nat} {pins : List (Addr × Obj)} {s : Shared} {σ : L2.St} {H : Hp} {Fz : Addr → Prop} {ρ : List Sl} {st : Pot}
theorem LamAt.move {f : Addr} {m : Lm} (h : LamAt X.prog X.w X.K X.mg X.base Z.G.clss Z.T.t Z.p Z.lvL X.outer X.s_0 X.H_0 Z.T.fe f m) (he : X.ex = []) (ht : Z.T.he = X.H_0) (I : Inv X pins σ H s) (S : Sit Z.T Z.p Fz H st) :
    LamAt X.prog X.w X.K X.mg X.base Z.G.clss Z.T.t Z.p Z.lvL X.stack s H Fz f m := by
  obtain ⟨⟨⟨φ, h1, hφ⟩, np⟩, h2⟩ := h
  have keepH : ∀ a o, X.H_0 a = some o → Z.p ≠ some a → (∀ ps, o ≠ .tbl ps) → H a = some o := fun a o q => S.ent a o (by rw [ht]; exact q)
  refine ⟨⟨⟨φ, keepH f _ h1 np (fun ps z => by cases z), hφ⟩, np⟩, fun A outer' s1 H1 Fz1 st1 L Q E r e0 u k kz S1 o => ?_⟩
  exact h2 A outer' s1 H1 Fz1 st1 L Q E r e0 (Un.into (H := X.H_0) I he u) (fun a o q n t => k a o (keepH a o q n t) n t) (fun a z => kz a (S.fe a z)) S1 o
theorem run_fnG {F : FnS} {f : Addr} {fd : FuncData} {args : Args} {us : List Value} {vs : List V} {xs : List Val} {Q : VK} (g : Good Z W X lv) (hlv : F.lv ≤ lv) (hF : FnG X.prog X.w X.K X.mg X.base Z.G.clss Z.T.t Z.lvL F.lv f fd F.ps F.sem)
    (I : Inv X pins σ H s) (S : Sit Z.T Z.p Fz H st) (bt : BindsTo s fd args (F.ps.zip us)) (r : Vals vs us) (hl : vs.length = F.ps.length) (vr : VRs (rc Z X) Fz H vs xs)
    (h : Out Z W X.K X.mg σ Fz H (F.sem xs st) fun v st' Fz' H' => ∀ w, VR (rc Z X) Fz' H' w v → Q w H') : wpAny (model X.prog X.w) X.A (call (.ref f) args.pos args.kw) (EP X pins σ Q) X.xe s := by
  have back : ∀ {Fz' H' st'}, Ext Z.p Fz H Fz' H' → Sit ⟨Z.T.t, H, Fz⟩ Z.p Fz' H' st' → Sit Z.T Z.p Fz' H' st' := fun e s' => ⟨s'.pot, s'.fz, s'.tabs, fun a o q n t => e.keep a o (S.ent a o q n t) n t, fun a o q => let ⟨o', q'⟩ := S.pres a o q; e.there a o' q', fun a z => e.fz a (S.fe a z)⟩
  refine wpAny_call (codeAny_mono (hF X.A X.stack s H args us vs Q (fun cls d H' => W cls d σ H') Z.p Z.L Fz xs st (g.room.mono hlv) I.env0 bt r hl (fun f m q => ?_) ⟨S.pot, S.fz, S.tabs, fun a o q _ _ => q, fun a o q => ⟨o, q⟩, fun _ z => z⟩ vr ?_) fun r s' hq => ?_)
  · obtain ⟨q1, q2, q3⟩ := g.lam f m q
    exact LamAt.move q1 q2 q3 I S
  · unfold OutF
    unfold Out at h
    split
    · rename_i v st' e
      rw [e] at h
      exact fun Fz' H' w e1 s1 v1 => h Fz' H' e1 (back e1 s1) w v1
    · rename_i c x st' e
      rw [e] at h
      exact fun Fz' H' cls dd e1 s1 v1 => h Fz' H' cls dd e1 (back e1 s1) v1
    · rename_i e
      rw [e] at h
      exact h
  · cases r with
    | error e => exact g.tk _ _ (XE.of_call I (fun _ _ _ z => z) hq)
    | ok fl =>
      cases fl with
      | ret u => exact I.after hq
      | next => exact False.elim hq
      | brk => exact False.elim hq
      | cont => exact False.elim hq
end
end PyD
namespace PyD
open PySem PySem.Spec PyProof.Rows L2
section
variable {K : PySem.W.Frag} {p : Option Addr} {L : Ls} {T : Tb} {H0 H H' : Hp} {Fz Fz' : Addr → Prop} {σ : L2.St} {ρ : List Sl} {st st' : Pot}
/-- everything passed on is frozen for a while -/
theorem VTs.lend (s : Sit T p Fz H st) (E : ER ⟨K, p, L⟩ Fz H σ ρ) : ∀ {ws : List V} {as : List (Val × Kd)}, VTs ⟨K, p, L⟩ H0 Fz H σ ρ ws as → ∃ F2, (∀ a, Fz a → F2 a) ∧ (∀ a, F2 a → Fz a ∨ ∃ o, H a = some o) ∧ Sit T p F2 H st ∧ VRs ⟨K, p, L⟩ F2 H ws (vals as)
  | _, _, .nil => ⟨Fz, fun _ z => z, fun _ z => .inl z, s, .nil⟩
  | _, _, .cons (w := w) (x := x) (k := k) q r => by
    have one : ∃ F1, (∀ a, Fz a → F1 a) ∧ (∀ a, F1 a → Fz a ∨ ∃ o, H a = some o) ∧ Sit T p F1 H st ∧ VR ⟨K, p, L⟩ F1 H w x := by
      have key : ∀ (a : Addr) (vs : List V) (ds : List PyData), H a = some (.lst vs) → p ≠ some a → Rps K Fz H vs ds → ∃ F1, (∀ a, Fz a → F1 a) ∧ (∀ a, F1 a → Fz a ∨ ∃ o, H a = some o) ∧ Sit T p F1 H st ∧ VR ⟨K, p, L⟩ F1 H (.ref a) (.d (.list ds)) := by
        intro a vs ds e3 e5 e7
        refine ⟨fun b => Fz b ∨ b = a, fun _ z => .inl z, fun b z => z.imp id fun e => ⟨HO.lst vs, by rw [e]; exact e3⟩, ⟨fun q e => ?_, fun b z => ?_, s.tabs, s.ent, s.pres, fun a z => .inl (s.fe a z)⟩, Rp.lst (.inl e3) (.inr rfl) (e7.move (fun _ z => .inl z) fun _ _ _ z => z)⟩
        · obtain ⟨h1, h2⟩ := s.pot q e
          exact ⟨h1, fun z => z.elim h2 fun e' => e5 (by rw [← e']; exact e)⟩
        · rcases z with z | z
          · exact s.fz b z
          · exact ⟨_, by rw [z]; exact e3, fun ps z => by cases z⟩
      cases k with
      | cl => exact ⟨Fz, fun _ z => z, fun _ z => .inl z, s, q⟩
      | ow =>
        obtain ⟨i, ds, h1, h2, rfl⟩ := q
        obtain ⟨a, vs, g1, g2, g3, g4, g5⟩ := E.own i ds h1
        rw [h2] at g1
        cases g1
        exact key a vs ds g2 g4 g5
      | fr =>
        obtain ⟨a, vs, ds, rfl, rfl, e3, e4, e5, e6, e7⟩ := q
        exact key a vs ds e3 e5 e7
    obtain ⟨F1, a1, b1, s1, q1⟩ := one
    obtain ⟨F2, a2, b2, s2, r2⟩ := VTs.lend s E r
    refine ⟨fun a => F1 a ∨ F2 a, fun a z => .inl (a1 a z), fun a z => z.elim (b1 a) (b2 a), ⟨fun q e => ?_, fun a z => z.elim (s1.fz a) (s2.fz a), s.tabs, s.ent, s.pres, fun a z => .inl (s1.fe a z)⟩, .cons (q1.move (fun _ z => .inl z) fun _ _ _ z => z) (r2.move (fun _ z => .inr z) fun _ _ _ z => z)⟩
    exact ⟨(s.pot q e).1, fun z => z.elim (s1.pot q e).2 (s2.pot q e).2⟩
/-- what was lent is taken back -/
theorem Ext.back {F2 : Addr → Prop} (a : ∀ b, Fz b → F2 b) (e : Ext p F2 H Fz' H') (s : Sit T p Fz' H' st') (hf : ∀ b, T.fe b → Fz b) : Ext p Fz H (fun b => Fz b ∨ (Fz' b ∧ H b = none)) H' ∧ Sit T p (fun b => Fz b ∨ (Fz' b ∧ H b = none)) H' st' := by
  have sub : ∀ b, (Fz b ∨ (Fz' b ∧ H b = none)) → Fz' b := fun b z => z.elim (fun z => e.fz b (a b z)) (·.1)
  refine ⟨⟨fun b z => .inl z, e.keep, fun b z => z.imp id (·.2), e.there⟩, fun q h => ⟨(s.pot q h).1, fun z => (s.pot q h).2 (sub q z)⟩, fun b z => s.fz b (sub b z), s.tabs, s.ent, s.pres, fun b z => .inl (hf b z)⟩
theorem XR.flat {mg : Str → Option Value} {cs : List ClS} {F1 F2 : Addr → Prop} {c : Nat} {x : Option PyData} {cls : Value} {dd : Option Addr} (hx : flatX x = true) (h : XR K mg cs F1 H c x cls dd) : XR K mg cs F2 H c x cls dd := by
  obtain ⟨C, a, h1, h2, h3, h4⟩ := h
  refine ⟨C, a, h1, h2, h3, ?_⟩
  cases x with
  | none => exact h4
  | some d =>
    obtain ⟨b, w, e1, e2, e3⟩ := h4
    exact ⟨b, w, e1, e2, Rp.flat hx e3⟩
theorem VR.flat {F1 F2 : Addr → Prop} {w : V} : ∀ {v : Val}, flatV v = true → VR ⟨K, p, L⟩ F1 H w v → VR ⟨K, p, L⟩ F2 H w v
  | .d x, h, r => Rp.flat h r
  | .pot, _, r => r
  | .lam m, h, _ => by cases h
  | .lams m, h, _ => by cases h
end
section
variable {Z : Zx} {W : WX} {X : Cx} {lv : Nat} {a b c e : Expr} {xa xb xc : Ex} {pos p2 : Pos} {pins : List (Addr × Obj)} {s : Shared} {σ : L2.St} {H H0 : Hp} {Fz : Addr → Prop} {ρ : List Sl} {st : Pot}
/-- the values stand: the callee runs -/
theorem call_ok {F : FnS} {i : Nat} {f : Addr} {fd : FuncData} {args : Args} {us : List Value} {vs : List V} {as : List (Val × Kd)} {Q : VK} (g : Good Z W X lv) (hi : Z.G.fns[i]? = some F) (hlv : F.lv ≤ lv)
    (hF : FnG X.prog X.w X.K X.mg X.base Z.G.clss Z.T.t Z.lvL F.lv f fd F.ps F.sem) (I : Inv X pins σ H s) (S : Sit Z.T Z.p Fz H st) (E : ER (rc Z X) Fz H σ ρ) (bt : as.length = F.ps.length → BindsTo s fd args (F.ps.zip us)) (r : Vals vs us) (v : VTs (rc Z X) H0 Fz H σ ρ vs as) (b : ∀ a, H a = none → H0 a = none)
    (h : Out Z W X.K X.mg σ Fz H (callG Z.G i as st) fun a st' Fz' H' => ∀ w, VT (rc Z X) H0 Fz' H' σ ρ w a.1 a.2 → Q w H') (hm : ∀ {F2 : Addr → Prop}, Frozen Z.T Z.p H0 Fz H st F2 → Out Z W X.K X.mg σ F2 H (callG Z.G i as st) fun a st' Fz' H' => ∀ w, VT (rc Z X) H0 Fz' H' σ ρ w a.1 a.2 → Q w H') :
    wpAny (model X.prog X.w) X.A (call (.ref f) args.pos args.kw) (EP X pins σ Q) X.xe s := by
  unfold callG at h hm
  rw [hi] at h hm
  simp only at h hm
  split at h
  · rename_i hl
    have hl' : vs.length = F.ps.length := by rw [v.length]; exact hl
    split at h
    · rename_i hc
      obtain ⟨F2, f2, r2⟩ := v.clean S hc
      have h2 := hm f2
      rw [if_pos hl, if_pos hc] at h2
      refine run_fnG g hlv hF I f2.sit (bt hl) r hl' r2 (Out.mono (Out.bind h2) fun v st1 Fz1 H1 _ ⟨_, s1, o⟩ w q => ?_)
      exact o Fz1 H1 Ext.refl s1 w q
    · rename_i hc
      obtain ⟨F2, a2, b2, s2, r2⟩ := v.lend S E
      refine run_fnG g hlv hF I s2 (bt hl) r hl' r2 ?_
      unfold flatR at h
      cases hs : F.sem (vals as) st with
      | ok v st1 =>
        rw [hs] at h
        simp only at h
        split at h
        · rename_i hv
          intro Fz1 H1 e1 s1 w q
          obtain ⟨e3, s3⟩ := Ext.back a2 e1 s1 S.fe
          exact h _ H1 e3 s3 w (VR.flat hv q)
        · exact h.elim
      | exc c x st1 =>
        rw [hs] at h
        simp only at h
        split at h
        · rename_i hv
          intro Fz1 H1 cls dd e1 s1 q
          obtain ⟨e3, s3⟩ := Ext.back a2 e1 s1 S.fe
          exact h _ H1 cls dd e3 s3 (XR.flat hv q)
        · exact h.elim
      | bad =>
        rw [hs] at h
        exact h.elim
  · exact h.elim
theorem k_call {i : Nat} {F : FnS} {es : List Expr} {xs : Exs} (g : Good Z W X lv) (hi : Z.G.fns[i]? = some F) (hlv : F.lv ≤ lv) (hg : Gl X F.name) (hd : (F.name == ("__debug__" : Str)) = false) (ha : PA X (a :: es) (rdA Z W X.K X.mg xs))
    (hs : starEach (a :: es) X.env = (false, eval a X.env) :: starEach es X.env) (hpl : (backTo pos (starEach es X.env)).any (·.1) = false) : PE X (.Call (.Name F.name p2) (a :: es) [] pos) (rdE Z W X.K X.mg (.call i xs)) := by
  refine ⟨fun pins s σ H Q I ⟨Fz, ρ, st, S, E, h⟩ => ?_⟩
  simp only [ev] at h
  obtain ⟨f, fd, hm, hk, hp, hF⟩ := (g.fns i F hi hlv).ex
  refine wpAny_Call_Name_kw (ld_glob I hg hm ?_ hd)
  refine PySem.W.callWith_K (h₀ := X.base) I.ok.mod.kin hk (seqA ha I S E h fun us s1 ws as st1 Fz1 H1 I1 r1 e1 S1 E1 v1 er h1 => ⟨I1.kIn, ?_⟩) hs hpl
  have h0 := h
  rw [er] at h0
  refine call_ok (args := ⟨us, []⟩) (us := us) g hi hlv hF I1 S1 E1 (fun hl => .of_eq (binds_pos hp (by rw [← Paired.length r1, v1.length]; exact hl))) r1 v1 e1.fresh h1 fun f2 => ?_
  exact Out.shift h0 (f2.ext e1)
theorem k_call0 {i : Nat} {F : FnS} (g : Good Z W X lv) (hi : Z.G.fns[i]? = some F) (hlv : F.lv ≤ lv) (hg : Gl X F.name) (hd : (F.name == ("__debug__" : Str)) = false) : PE X (.Call (.Name F.name p2) [] [] pos) (rdE Z W X.K X.mg (.call i .nil)) := by
  refine ⟨fun pins s σ H Q I ⟨Fz, ρ, st, S, E, h⟩ => ?_⟩
  simp only [ev, evs] at h
  obtain ⟨f, fd, hm, hk, hp, hF⟩ := (g.fns i F hi hlv).ex
  refine wpAny_Call_Name_kw (ld_glob I hg hm ?_ hd)
  refine PySem.W.callWith_K0 I.kIn hk ?_
  refine call_ok (args := ⟨[], []⟩) (us := []) g hi hlv hF I S E (fun hl => .of_eq (binds_pos hp hl)) .nil .nil (fun _ z => z) h fun f2 => ?_
  exact Out.shift h (f2.ext Ext.refl)
/-- the values of keywords -/
theorem VTs.append {R : Rc} : ∀ {ws : List V} {as : List (Val × Kd)} {ws' : List V} {as' : List (Val × Kd)}, VTs R H0 Fz H σ ρ ws as → VTs R H0 Fz H σ ρ ws' as' → VTs R H0 Fz H σ ρ (ws ++ ws') (as ++ as')
  | _, _, _, _, .nil, h => h
  | _, _, _, _, .cons q r, h => .cons q (r.append h)
theorem VTs.get {R : Rc} : ∀ {ws : List V} {as : List (Val × Kd)} {i : Nat} {x : Val × Kd}, VTs R H0 Fz H σ ρ ws as → as[i]? = some x → ∃ w, ws[i]? = some w ∧ VT R H0 Fz H σ ρ w x.1 x.2
  | _, _, _, _, .nil, h => by simp at h
  | _, _, 0, _, .cons q r, h => by
    have e : _ = _ := Option.some.inj h
    subst e
    exact ⟨_, rfl, q⟩
  | _, _, i + 1, x, .cons q r, h => r.get (i := i) h
theorem VTs.none_of {R : Rc} {ws : List V} {as : List (Val × Kd)} {i : Nat} (v : VTs R H0 Fz H σ ρ ws as) (h : as[i]? = none) : ws[i]? = none := by
  have e := v.length
  have := List.getElem?_eq_none_iff.mp h
  exact List.getElem?_eq_none_iff.mpr (by omega)
theorem VTs.perm {R : Rc} {ws : List V} {as : List (Val × Kd)} (v : VTs R H0 Fz H σ ρ ws as) : ∀ pm : List Nat, VTs R H0 Fz H σ ρ (pm.filterMap (ws[·]?)) (permd pm as)
  | [] => .nil
  | i :: pm => by
    unfold permd
    rw [List.filterMap_cons, List.filterMap_cons]
    cases q : as[i]? with
    | none =>
      rw [v.none_of q]
      exact VTs.perm v pm
    | some x =>
      obtain ⟨w, e1, e2⟩ := v.get q
      rw [e1]
      exact .cons e2 (VTs.perm v pm)
theorem Vals.perm {ws : List V} {us : List Value} (v : Vals ws us) : ∀ pm : List Nat, Vals (pm.filterMap (ws[·]?)) (pm.filterMap (us[·]?))
  | [] => .nil
  | i :: pm => by
    rw [List.filterMap_cons, List.filterMap_cons]
    cases q : ws[i]? with
    | none =>
      rw [L2.Vals.none_of v q]
      exact Vals.perm v pm
    | some x =>
      obtain ⟨w, e1, e2⟩ := L2.Vals.get v q
      rw [e1]
      exact .cons e2 (Vals.perm v pm)
theorem kw_nil (g : Good Z W X lv) : PK X [] (rdA Z W X.K X.mg .nil) :=
  ⟨fun pos pins s σ H Q I ⟨Fz, ρ, st, S, E, h⟩ => pk_nil.run pos pins s σ H Q I (h Fz H Ext.refl S [] .nil trivial)⟩
theorem kw_cons {kws : List Keyword} {xs : Exs} {nm : Option Str} {kpos : Pos} (g : Good Z W X lv) (ha : PE X a (rdE Z W X.K X.mg xa)) (hr : PK X kws (rdA Z W X.K X.mg xs)) : PK X (⟨nm, a, kpos⟩ :: kws) (rdA Z W X.K X.mg (.cons xa xs)) := by
  refine ⟨fun pos pins s σ H Q I ⟨Fz, ρ, st, S, E, h⟩ => ?_⟩
  simp only [evs] at h
  show wpAny _ _ (evalAll ((do let v ← eval a X.env; standAt pos; pure v) :: (backToKw pos (keywordEach kws X.env)).map (·.2))) _ _ s
  refine wpAny_evalAll_cons (wpAny_bind (seqE ha I S E h fun v s1 w1 a1 st1 Fz1 H1 I1 r1 e1 S1 E1 v1 _ h1 => wpAny_bind (wpAny_standAt (wpAny_pure ?_))))
  refine thn (hr.run pos pins s1 σ H1 (fun ws H2 => ∃ as st2 Fz2, Ext Z.p Fz1 H1 Fz2 H2 ∧ Sit Z.T Z.p Fz2 H2 st2 ∧ VTs (rc Z X) H1 Fz2 H2 σ ρ ws as ∧ Dis ws as ∧ Out Z W X.K X.mg σ Fz2 H2 (.ok (a1 :: as) st2) fun as st' Fz' H' => ∀ ws, VTs (rc Z X) H Fz' H' σ ρ ws as → Dis ws as → Q ws H') I1
    ⟨Fz1, ρ, st1, S1, E1, Out.mono (Out.bind h1) fun as st2 Fz2 H2 er ⟨e2, s2, o⟩ w v dd => ⟨as, st2, Fz2, e2, s2, v, dd, o⟩⟩) fun us s2 ⟨ws, H2, I2, r2, as, st2, Fz2, e2, S2, v2, dd, o⟩ => ?_
  exact ⟨w1 :: ws, H2, I2, .cons r1 r2, o Fz2 H2 Ext.refl S2 _ (.cons (v1.move S1 e2) (v2.base e1.fresh)) (Dis.cons v1 v2 dd)⟩
theorem seqK {x : Exs} {kws : List Keyword} {β : Type} {f : List (Val × Kd) → Pot → Res β} {q : β → Pot → (Addr → Prop) → Hp → Prop} {Φ : List Value → Shared → Prop} (he : PK X kws (rdA Z W X.K X.mg x)) (I : Inv X pins σ H s) (S : Sit Z.T Z.p Fz H st) (E : ER (rc Z X) Fz H σ ρ)
    (h : Out Z W X.K X.mg σ Fz H ((evs Z.G x ρ st).bind f) q)
    (k : ∀ us s1 ws as st1 Fz1 H1, Inv X pins σ H1 s1 → Vals ws us → Ext Z.p Fz H Fz1 H1 → Sit Z.T Z.p Fz1 H1 st1 → ER (rc Z X) Fz1 H1 σ ρ → VTs (rc Z X) H Fz1 H1 σ ρ ws as → evs Z.G x ρ st = .ok as st1 → Out Z W X.K X.mg σ Fz1 H1 (f as st1) q → Φ us s1) :
    wpAny (model X.prog X.w) X.A (evalAll ((backToKw pos (keywordEach kws X.env)).map (·.2))) Φ X.xe s := by
  refine thn (he.run pos pins s σ H (fun ws H1 => ∃ as st1 Fz1, Ext Z.p Fz H Fz1 H1 ∧ Sit Z.T Z.p Fz1 H1 st1 ∧ VTs (rc Z X) H Fz1 H1 σ ρ ws as ∧ evs Z.G x ρ st = .ok as st1 ∧ Out Z W X.K X.mg σ Fz1 H1 (f as st1) q) I
    ⟨Fz, ρ, st, S, E, Out.mono (Out.bind h) fun a st1 Fz1 H1 er ⟨e1, s1, o⟩ w v _ => ⟨a, st1, Fz1, e1, s1, v, er, o⟩⟩) fun us s1 ⟨ws, H1, I1, r1, as, st1, Fz1, e1, S1, v, er, o⟩ => ?_
  exact k us s1 ws as st1 Fz1 H1 I1 r1 e1 S1 (E.ext S e1) v er o
/-- how many arguments are written -/
def Exs.size : Exs → Nat
  | .nil => 0
  | .cons _ r => r.size + 1
theorem evs_size {G : GT} : ∀ {xs : Exs} {ρ : List Sl} {st st' : Pot} {as : List (Val × Kd)}, evs G xs ρ st = .ok as st' → as.length = xs.size
  | .nil, ρ, st, st', as, h => by
    simp only [evs] at h
    cases h; rfl
  | .cons e r, ρ, st, st', as, h => by
    simp only [evs] at h
    cases q : ev G e ρ st with
    | ok v st1 =>
      rw [q] at h
      have h : ((evs G r ρ st1).bind fun vs st => (.ok (v :: vs) st : Res (List (Val × Kd)))) = .ok as st' := h
      cases q2 : evs G r ρ st1 with
      | ok vs st2 =>
        rw [q2] at h
        have h : (.ok (v :: vs) st2 : Res (List (Val × Kd))) = .ok as st' := h
        cases h
        rw [List.length_cons, evs_size q2]
        rfl
      | exc c x st2 => rw [q2] at h; cases h
      | bad => rw [q2] at h; cases h
    | exc c x st2 => rw [q] at h; cases h
    | bad => rw [q] at h; cases h
theorem k_callk {i : Nat} {F : FnS} {es : List Expr} {xs xk : Exs} {kws : List Keyword} {ks : List Str} {pm : List Nat} (g : Good Z W X lv) (hi : Z.G.fns[i]? = some F) (hlv : F.lv ≤ lv) (hg : Gl X F.name) (hd : (F.name == ("__debug__" : Str)) = false) (ha : PA X (a :: es) (rdA Z W X.K X.mg xs))
    (hkw : PK X kws (rdA Z W X.K X.mg xk)) (hall : (backToKw pos (keywordEach kws X.env)).all (·.1.isSome) = true) (hks : (backToKw pos (keywordEach kws X.env)).filterMap (·.1) = ks) (hsz : xk.size = ks.length) (hpm : kwOk F.ps xs.size ks pm = true)
    (hs : starEach (a :: es) X.env = (false, eval a X.env) :: starEach es X.env) (hpl : ((backTo pos (starEach (a :: es) X.env)).any (·.1) || (backToKw pos (keywordEach kws X.env)).any (·.1.isNone)) = false) :
    PE X (.Call (.Name F.name p2) (a :: es) kws pos) (rdE Z W X.K X.mg (.callk i xs xk pm)) := by
  refine ⟨fun pins s σ H Q I ⟨Fz, ρ, st, S, E, h⟩ => ?_⟩
  simp only [ev] at h
  obtain ⟨f, fd, hm, hk, hp, hF⟩ := (g.fns i F hi hlv).ex
  refine wpAny_Call_Name_kw (ld_glob I hg hm ?_ hd)
  refine PySem.W.callWith_KW (h₀ := X.base) I.ok.mod.kin hk hall (seqA ha I S E h fun us s1 ws as st1 Fz1 H1 I1 r1 e1 S1 E1 v1 er h1 => ?_) hpl hs
  refine seqK hkw I1 S1 E1 h1 fun us2 s2 ws2 as2 st2 Fz2 H2 I2 r2 e2 S2 E2 v2 er2 h2 => ⟨I2.kIn, ?_⟩
  rw [hks]
  have h0 := h
  rw [er] at h0
  have h0 : Out Z W X.K X.mg σ Fz H ((evs Z.G xk ρ st1).bind fun bs st => callG Z.G i (permd pm (as ++ bs)) st) _ := h0
  rw [er2] at h0
  have e12 := e1.trans e2
  have l1 : us.length = xs.size := by rw [← Paired.length r1, v1.length, evs_size er]
  have l2 : us2.length = ks.length := by rw [← Paired.length r2, v2.length, evs_size er2]; exact hsz
  refine call_ok (args := ⟨us, ks.zip us2⟩) (us := pm.filterMap ((us ++ us2)[·]?)) g hi hlv hF I2 S2 E2 (fun hl => .of_eq (binds_kw hp (by rw [l1]; exact hpm) l2)) (Vals.perm (r1.append r2) pm) (((v1.move S1 e2).append (v2.base e1.fresh)).perm pm) e12.fresh h2 fun f2 => ?_
  exact Out.shift h0 (f2.ext e12)
theorem k_callk0 {i : Nat} {F : FnS} {xk : Exs} {kws : List Keyword} {ks : List Str} {pm : List Nat} (g : Good Z W X lv) (hi : Z.G.fns[i]? = some F) (hlv : F.lv ≤ lv) (hg : Gl X F.name) (hd : (F.name == ("__debug__" : Str)) = false)
    (hkw : PK X kws (rdA Z W X.K X.mg xk)) (hall : (backToKw pos (keywordEach kws X.env)).all (·.1.isSome) = true) (hks : (backToKw pos (keywordEach kws X.env)).filterMap (·.1) = ks) (hsz : xk.size = ks.length) (hpm : kwOk F.ps 0 ks pm = true)
    (hpl : ((backTo pos (starEach [] X.env)).any (·.1) || (backToKw pos (keywordEach kws X.env)).any (·.1.isNone)) = false) :
    PE X (.Call (.Name F.name p2) [] kws pos) (rdE Z W X.K X.mg (.callk i .nil xk pm)) := by
  refine ⟨fun pins s σ H Q I ⟨Fz, ρ, st, S, E, h⟩ => ?_⟩
  simp only [ev, evs] at h
  obtain ⟨f, fd, hm, hk, hp, hF⟩ := (g.fns i F hi hlv).ex
  refine wpAny_Call_Name_kw (ld_glob I hg hm ?_ hd)
  have h' : Out Z W X.K X.mg σ Fz H ((evs Z.G xk ρ st).bind fun bs st => callG Z.G i (permd pm ([] ++ bs)) st) fun a st' Fz' H' => ∀ w, VT (rc Z X) H Fz' H' σ ρ w a.1 a.2 → Q w H' := h
  refine PySem.W.callWith_KW0 (h₀ := X.base) I.ok.mod.kin hk hall (seqK hkw I S E h' fun us2 s2 ws2 as2 st2 Fz2 H2 I2 r2 e2 S2 E2 v2 er2 h2 => ⟨I2.kIn, ?_⟩) hpl
  rw [hks]
  have h0 := h'
  rw [er2] at h0
  have l2 : us2.length = ks.length := by rw [← Paired.length r2, v2.length, evs_size er2]; exact hsz
  refine call_ok (args := ⟨[], ks.zip us2⟩) (us := pm.filterMap (us2[·]?)) g hi hlv hF I2 S2 E2 (fun hl => .of_eq ?_) (Vals.perm r2 pm) (v2.perm pm) e2.fresh h2 fun f2 => ?_
  · exact binds_kw (us := []) hp hpm l2
  · exact Out.shift h0 (f2.ext e2)
end
end PyD
namespace PyD
open PySem PySem.Spec PyProof.Rows L2
def isiC : Bi → List String
  | .isI => ["int"] | .isB => ["bool"] | .isT => ["tuple"] | .isL => ["list"] | .isLT => ["list", "tuple"] | .isS => ["str"]
  | _ => []
theorem isi_sem {b : Bi} {d z : PyData} (h : isiC b ≠ []) (e : biD b [d] = some z) : z = .bool ((isiC b).any (isiOne d)) := by
  cases b <;> first | (exact absurd rfl h) | (cases d <;> (have e' := Option.some.inj e; rw [← e']; rfl))
theorem isi_len {b : Bi} {ds : List PyData} {z : PyData} (h : isiC b ≠ []) (e : biD b ds = some z) : ∃ d, ds = [d] := by
  match ds with
  | [d] => exact ⟨d, rfl⟩
  | [] => cases b <;> first | (exact absurd rfl h) | (cases e)
  | d :: d' :: r => cases b <;> first | (exact absurd rfl h) | (cases d <;> cases e)
/-- the name tells a built-in thing -/
def Blt (X : Cx) (x : Str) (f : Value) : Prop := Gl X x ∧ (x == ("__debug__" : Str)) = false ∧ ((X.mg x = none ∧ bootBuiltins x = some f ∧ x ≠ "__name__") ∨ X.mg x = some f)
section
variable {Z : Zx} {W : WX} {X : Cx} {lv : Nat} {a b c e : Expr} {xa xb xc : Ex} {pos p2 p3 : Pos} {pins : List (Addr × Obj)} {s : Shared} {σ : L2.St} {H H0 : Hp} {Fz : Addr → Prop} {ρ : List Sl} {st : Pot}
theorem ld_B {x : Str} {f : Value} {Q : Value → Shared → Prop} (h : Blt X x f) (I : Inv X pins σ H s) (q : Q f s) : wpAny (model X.prog X.w) X.A (eval (.Name x pos) X.env) Q X.xe s := by
  obtain ⟨h1, h2, ⟨h3, h4, h5⟩ | h3⟩ := h
  · exact ld_blt I h1 h3 h4 q h5 h2
  · exact ld_glob I h1 h3 q h2
theorem pe_B {x : Str} {T : String} (h : Blt X x (.type T)) : PE X (.Name x pos) (tC (.ty T)) := ⟨fun pins s σ H Q I q => ld_B h I ⟨.ty T, H, I, rfl, q⟩⟩
theorem biV_shape {b : Bi} {f : Value} (h : biV b = some f) : (∃ id, f = .builtin id) ∨ ∃ T, f = .type T := by
  cases b <;> first | (exact .inl ⟨_, (Option.some.inj h).symm⟩) | (exact .inr ⟨_, (Option.some.inj h).symm⟩) | (cases h)
theorem callB {f : Value} {es : List Expr} {Φ : Value → Shared → Prop} (hf : (∃ id, f = .builtin id) ∨ ∃ T, f = .type T) (h : wpAny (model X.prog X.w) X.A (spliced (backTo pos (starEach (a :: es) X.env))) (fun vs s₁ => wpAny (model X.prog X.w) X.A (call f vs) Φ X.xe s₁) X.xe s)
    (he : starEach (a :: es) X.env = (false, eval a X.env) :: starEach es X.env) (hpl : (backTo pos (starEach es X.env)).any (·.1) = false) : wpAny (model X.prog X.w) X.A (callWith pos f [] (backTo pos (starEach (a :: es) X.env)) []) Φ X.xe s := by
  rcases hf with ⟨id, rfl⟩ | ⟨T, rfl⟩
  · exact PyProof.Rows.callWith_builtin1 h he hpl
  · exact PyProof.Rows.callWith_type1 h he hpl
theorem k_bi {x : Str} {bb : Bi} {f : Value} {es : List Expr} {xs : Exs} (g : Good Z W X lv) (hf : biV bb = some f) (hb : Blt X x f) (ha : PA X (a :: es) (rdA Z W X.K X.mg xs))
    (he : starEach (a :: es) X.env = (false, eval a X.env) :: starEach es X.env) (hpl : (backTo pos (starEach es X.env)).any (·.1) = false) : PE X (.Call (.Name x p2) (a :: es) [] pos) (rdE Z W X.K X.mg (.bi bb xs)) := by
  refine ⟨fun pins s σ H Q I ⟨Fz, ρ, st, S, E, h⟩ => ?_⟩
  simp only [ev] at h
  refine wpAny_Call_Name_kw (ld_B hb I (callB (biV_shape hf) (seqA ha I S E h fun us s1 ws as st1 Fz1 H1 I1 r1 e1 S1 E1 v1 er h1 => ?_) he hpl))
  obtain ⟨z, hz, q⟩ := Out.doneK h1 e1.fresh
  obtain ⟨ds, hd, hz⟩ := Option.bind_eq_some_iff.mp hz
  exact bi_ok g.room g.calm I1 S1 E1 r1 v1 hd hf hz q
theorem Out.one {β : Type} {xs : Exs} {f : List (Val × Kd) → Pot → Res β} {q : β → Pot → (Addr → Prop) → Hp → Prop} (h : Out Z W X.K X.mg σ Fz H ((evs Z.G (.cons xa .nil) ρ st).bind f) q) : Out Z W X.K X.mg σ Fz H ((ev Z.G xa ρ st).bind fun a st => f [a] st) q := by
  simp only [evs] at h
  cases hh : ev Z.G xa ρ st with
  | ok v st1 =>
    rw [hh] at h
    exact h
  | exc c x st1 => rw [hh] at h; exact h
  | bad => rw [hh] at h; exact h
/-- isinstance(x, c) -/
theorem k_isi {x c : Str} {T : String} {bb : Bi} (g : Good Z W X lv) (hb : isiC bb = [T]) (hk : okCls T = true) (hx : Blt X x (.builtin "isinstance")) (hc : Blt X c (.type T)) (ha : PE X a (rdE Z W X.K X.mg xa))
    (he : starEach [a, .Name c p3] X.env = (false, eval a X.env) :: starEach [.Name c p3] X.env) : PE X (.Call (.Name x p2) [a, .Name c p3] [] pos) (rdE Z W X.K X.mg (.bi bb (.cons xa .nil))) := by
  refine ⟨fun pins s σ H Q I ⟨Fz, ρ, st, S, E, h⟩ => ?_⟩
  simp only [ev] at h
  have h := Out.one (xs := .nil) h
  refine wpAny_Call_Name_kw (ld_B hx I (callB (.inl ⟨_, rfl⟩) ?_ he rfl))
  rw [he]
  show wpAny _ _ (spliced ((false, eval a X.env) :: backTo pos (starEach [.Name c p3] X.env))) _ _ s
  refine Calls.spliced_cons (seqE ha I S E h fun v s1 w1 a1 st1 Fz1 H1 I1 r1 e1 S1 E1 v1 _ h1 => ?_)
  refine thn ((pa_cons (pe_B hc) pa_nil).run pos pins s1 σ H1 (fun ws H2 => H2 = H1 ∧ ws = [.ty T]) I1 ⟨rfl, rfl⟩) fun us s2 ⟨ws, H2, I2, r2, q2⟩ => ?_
  obtain ⟨rfl, rfl⟩ := q2
  cases r2 with
  | cons ru rt =>
    cases rt
    obtain ⟨v', k'⟩ := a1
    cases hv : v' with
    | d d =>
      rw [hv] at h1 v1
      obtain ⟨z, hz, q⟩ := Out.doneK h1 e1.fresh
      have hz : biD bb [d] = some z := hz
      have hne : isiC bb ≠ [] := by rw [hb]; simp
      have ez := isi_sem hne hz
      rw [hb, List.any_cons, List.any_nil, Bool.or_false] at ez
      subst ez
      rw [show _ = Value.type T from ru]
      exact isi_ok v1 E1 I2 r1 hk (q.flat S1 (.bl _))
    | pot => rw [hv] at h1; exact h1.elim
    | lam m => rw [hv] at h1; exact h1.elim
    | lams m => rw [hv] at h1; exact h1.elim
/-- isinstance(x, (c, ..)) -/
theorem k_isiT {x : Str} {Ts : List String} {bb : Bi} {ce : Expr} (g : Good Z W X lv) (hb : isiC bb = Ts) (hne : Ts ≠ []) (hk : Ts.all okCls = true) (hx : Blt X x (.builtin "isinstance")) (hc : PE X ce (tTup fun σ H Q => Q (Ts.map V.ty) H)) (ha : PE X a (rdE Z W X.K X.mg xa))
    (he : starEach [a, ce] X.env = (false, eval a X.env) :: starEach [ce] X.env) (he2 : starEach [ce] X.env = (false, eval ce X.env) :: starEach [] X.env) : PE X (.Call (.Name x p2) [a, ce] [] pos) (rdE Z W X.K X.mg (.bi bb (.cons xa .nil))) := by
  refine ⟨fun pins s σ H Q I ⟨Fz, ρ, st, S, E, h⟩ => ?_⟩
  simp only [ev] at h
  have h := Out.one (xs := .nil) h
  refine wpAny_Call_Name_kw (ld_B hx I (callB (.inl ⟨_, rfl⟩) ?_ he (by rw [he2]; rfl)))
  rw [he]
  show wpAny _ _ (spliced ((false, eval a X.env) :: backTo pos (starEach [ce] X.env))) _ _ s
  refine Calls.spliced_cons (seqE ha I S E h fun v s1 w1 a1 st1 Fz1 H1 I1 r1 e1 S1 E1 v1 _ h1 => ?_)
  refine thn ((pa_cons hc pa_nil he2).run pos pins s1 σ H1 (fun ws H2 => ∃ p, ws = [.ref p] ∧ H1 p = none ∧ H2 = upd H1 p (.tup (Ts.map V.ty))) I1 ⟨?_, fun p hp => ⟨p, rfl, hp, rfl⟩⟩) fun us s2 ⟨ws, H2, I2, r2, tp, q2, q3, q4⟩ => ?_
  · rw [List.length_map, ← hb, sizeLine_eq]
    cases bb <;> simp [isiC]
  · subst q2 q4
    cases r2 with
    | cons ru rt =>
      cases rt
      obtain ⟨v', k'⟩ := a1
      cases hv : v' with
      | d d =>
        rw [hv] at h1 v1
        obtain ⟨z, hz, q⟩ := Out.doneK h1 e1.fresh
        have hz : biD bb [d] = some z := hz
        have ez := isi_sem (by rw [hb]; exact hne) hz
        rw [hb] at ez
        subst ez
        rw [show _ = Value.ref tp from ru]
        have e2 : Ext Z.p Fz1 H1 Fz1 (upd H1 tp (.tup (Ts.map V.ty))) := Ext.upd q3
        have S2 := S1.upd (o := .tup (Ts.map V.ty)) q3
        exact isiT_ok (v1.move S1 e2) (E1.ext S1 e2) I2 r1 hk upd_same (q Fz1 _ _ e2 S2 (Rp.bl _))
      | pot => rw [hv] at h1; exact h1.elim
      | lam m => rw [hv] at h1; exact h1.elim
      | lams m => rw [hv] at h1; exact h1.elim
end
end PyD
namespace PyD
open PySem PySem.Spec PyProof.Rows L2
theorem insU_mem {x k : Int} : ∀ {l : List Int}, k ∈ insU x l ↔ k = x ∨ k ∈ l
  | [] => by simp [insU]
  | y :: r => by
    unfold insU
    split
    · simp
    · split
      · rename_i h
        subst h
        simp
      · rw [List.mem_cons, insU_mem, List.mem_cons]
        constructor
        · rintro (h | h | h)
          · exact .inr (.inl h)
          · exact .inl h
          · exact .inr (.inr h)
        · rintro (h | h | h)
          · exact .inr (.inl h)
          · exact .inl h
          · exact .inr (.inr h)
theorem insU_sorted {x : Int} : ∀ {l : List Int}, l.Pairwise (· < ·) → (insU x l).Pairwise (· < ·)
  | [], _ => by simp [insU]
  | y :: r, h => by
    obtain ⟨h1, h2⟩ := List.pairwise_cons.mp h
    unfold insU
    split
    · rename_i hx
      exact List.pairwise_cons.mpr ⟨fun z hz => by
        rcases List.mem_cons.mp hz with e | e
        · rw [e]; exact hx
        · exact Int.lt_trans hx (h1 z e), h⟩
    · split
      · exact h
      · rename_i hx hy
        exact List.pairwise_cons.mpr ⟨fun z hz => by
          rcases insU_mem.mp hz with e | e
          · rw [e]; omega
          · exact h1 z e, insU_sorted h2⟩
theorem sset_mem {k : Int} : ∀ {l : List Int}, k ∈ sset l ↔ k ∈ l
  | [] => by simp [sset]
  | x :: r => by rw [sset, insU_mem, sset_mem, List.mem_cons]
theorem sset_sorted : ∀ l : List Int, (sset l).Pairwise (· < ·)
  | [] => by simp [sset]
  | x :: r => insU_sorted (sset_sorted r)
theorem sorted_uniq : ∀ {l m : List Int}, l.Pairwise (· < ·) → m.Pairwise (· < ·) → (∀ k, k ∈ l ↔ k ∈ m) → l = m
  | [], [], _, _, _ => rfl
  | [], y :: m, _, _, h => by have := (h y).mpr (List.mem_cons_self ..); simp at this
  | x :: l, [], _, _, h => by have := (h x).mp (List.mem_cons_self ..); simp at this
  | x :: l, y :: m, h1, h2, h => by
    obtain ⟨a1, a2⟩ := List.pairwise_cons.mp h1
    obtain ⟨b1, b2⟩ := List.pairwise_cons.mp h2
    have e : x = y := by
      have hx := (h x).mp (List.mem_cons_self ..)
      have hy := (h y).mpr (List.mem_cons_self ..)
      rcases List.mem_cons.mp hx with e | e
      · exact e
      · rcases List.mem_cons.mp hy with e' | e'
        · exact e'.symm
        · have := b1 x e
          have := a1 y e'
          omega
    subst e
    congr 1
    refine sorted_uniq a2 b2 fun k => ⟨fun hk => ?_, fun hk => ?_⟩
    · rcases List.mem_cons.mp ((h k).mp (List.mem_cons_of_mem _ hk)) with e | e
      · subst e
        have := a1 k hk
        omega
      · exact e
    · rcases List.mem_cons.mp ((h k).mpr (List.mem_cons_of_mem _ hk)) with e | e
      · subst e
        have := b1 k hk
        omega
      · exact e
theorem ints_vals : ∀ {us : List Value} {ns : List Int}, IntsAre us ns → Vals (ns.map V.int) us
  | _, _, .nil => .nil
  | _, _, .cons n t r => .cons ⟨t, rfl⟩ (ints_vals r)
section
variable {Z : Zx} {W : WX} {X : Cx} {lv : Nat} {a b c e : Expr} {xa xb xc : Ex} {pos p1 p2 p3 q1 : Pos}
theorem Rps.ofInts {K : PySem.W.Frag} {F : Addr → Prop} {H : Hp} : ∀ ns : List Int, Rps K F H (ns.map V.int) (ns.map PyData.int)
  | [] => .nil
  | n :: r => .cons (.int n) (Rps.ofInts r)
/-- sorted(set(a tuple of ints)) -/
theorem k_sset {x y : Str} (g : Good Z W X lv) (hx : Blt X x (.builtin "sorted")) (hy : Blt X y (.type "set")) (ha : PE X a (rdE Z W X.K X.mg xa)) (na : starEach [a] X.env = (false, eval a X.env) :: starEach [] X.env) :
    PE X (.Call (.Name x p1) [.Call (.Name y p2) [a] [] q1] [] pos) (rdE Z W X.K X.mg (.bi .sortedSet (.cons xa .nil))) := by
  refine ⟨fun pins s σ H Q I ⟨Fz, ρ, st, S, E, h⟩ => ?_⟩
  simp only [ev] at h
  have h := Out.one (xs := .nil) h
  refine Call_ (ld_B hx I ?_)
  refine PyProof.Rows.callWith_builtin1 (PyProof.Rows.args_cons ?_ rfl) rfl rfl
  refine Call_ (ld_B hy I ?_)
  refine PyProof.Rows.callWith_type1 (PyProof.Rows.args_cons (seqE ha I S E h fun v s1 w1 a1 st1 Fz1 H1 I1 r1 e1 S1 E1 v1 _ h1 => PyProof.Rows.args_nil ?_) na) na rfl
  obtain ⟨z, hz, q⟩ := Out.doneK h1 e1.fresh
  obtain ⟨v', k'⟩ := a1
  cases v' with
  | d d =>
    have hz : biD .sortedSet [d] = some z := hz
    cases d with
    | tuple ds =>
      have hz : ((nums ds).bind fun ns => if ns.length < 64 then some (.list ((sset ns).map .int)) else none) = some z := hz
      obtain ⟨ns, hn, hz⟩ := Option.bind_eq_some_iff.mp hz
      split at hz
      · rename_i hl
        cases hz
        have en := nums_eq hn
        subst en
        obtain ⟨t, vs, rfl, ht, rr⟩ := v1.tupS
        have ev := Rps.nums rr
        subst ev
        cases r1
        obtain ⟨its, rv, pt, hzz⟩ := I1.tuple ht
        refine call_set_tupI ns (I1.ok.hd g.calm) (show s1.heap.IsTuple t its.toArray from pt) (by simpa using intsAre_of rv) (by unfold scanBound; omega) fun h' tk c R1 hcn k => PyProof.Rows.args_nil ?_
        have I2 : Inv X pins σ H1 { s1 with heap := h', toks := tk } := I1.kept k
        refine sorted_set (s := { s1 with heap := h', toks := tk }) R1 (I1.ok.hd g.calm) (by omega) fun s3 p out c' ms k3 g3 o3 hp e3 ia pw hm hlen => ?_
        have em : ms = sset ns := sorted_uniq pw (sset_sorted ns) fun j => by rw [hm j, decide_eq_true_eq, sset_mem]
        subst em
        have k13 : ∀ b o, s1.heap.get? b = some o → s3.heap.get? b = some o := fun b o e => k3 b o (k b o e)
        have hpn : H1 p = none := I2.hok.fresh hp
        obtain ⟨sh, sg, sd, stk, so⟩ := s3
        simp only at g3 o3
        subst g3 o3
        have rvv : Vals ((sset ns).map V.int) out.toList := ints_vals ia
        have new : ObjOk X.prog X.w (upd H1 p (.lst ((sset ns).map V.int))) sh p (.lst ((sset ns).map V.int)) := ⟨by rw [List.length_map]; rw [hlen]; rw [sizeLine_eq]; omega, out.toList, c', rvv, by rw [Array.toArray_toList]; exact e3⟩
        have I3 : Inv X pins σ (upd H1 p (.lst ((sset ns).map V.int))) ⟨sh, s1.gens, sd, stk, s1.os⟩ := L2.Inv.call (s := { s1 with heap := h', toks := tk }) (h' := sh) I2 (ch := []) (g' := s1.gens) (d' := sd) (t' := stk) (Un.laid k3 hp hpn) (I2.hok.laid k3 hp new) I1.bare (fun _ z => nomatch z)
        exact ⟨.ref p, _, I3, rfl, q.lst S1 hpn (Rps.ofInts _)⟩
      · cases hz
    | none => cases hz
    | bool b => cases hz
    | int i => cases hz
    | str x => cases hz
    | list x => cases hz
    | dict x => cases hz
  | pot => exact h1.elim
  | lam m => exact h1.elim
  | lams m => exact h1.elim
end
end PyD
namespace PyD
open PySem PySem.Spec PyProof.Rows L2
section
variable {prog : Program} {w : World} {A : Around} {E : Value → Shared → Prop} {s : Shared}
theorem adjust_rev (n : Nat) : Builtin.Slice.sliceAdjust none none (-1) (n : Int) = ((n : Int) - 1, -1) := by
  unfold Builtin.Slice.sliceAdjust
  simp
theorem places_rev (n : Nat) : Builtin.Slice.slicePlaces ((n : Int) - 1) (-1) (-1) = n := by
  unfold Builtin.Slice.slicePlaces
  simp only [show ¬ ((-1 : Int) > 0) by decide, if_false, show (- -1 : Int) = 1 by decide, Int.ediv_one]
  split <;> omega
theorem pick_rev (items : Array Value) : ((List.range items.size).filterMap fun (m : Nat) => items[((items.size : Int) - 1 + (m : Int) * -1).toNat]?).toArray = items.toList.reverse.toArray := by
  have h := PySem.W.krv_pick items
  unfold slicePick at h
  rw [PySem.W.krv_bounds] at h
  have h : ((sliceRange ((items.size : Int) - 1) (-1) (-1)).filterMap (items[·]?)).toArray = _ := h
  rw [PySem.W.krv_sliceRange, List.filterMap_map] at h
  rw [← h]
  congr 2
  funext m
  show items[((items.size : Int) - 1 + (m : Int) * -1).toNat]? = items[items.size - 1 - m]?
  congr 1
  omega
theorem sliceApplied_rev {sl : Addr} {vl vu vs : Value} {n : Nat} {Q : Int × Int × Nat → Shared → Prop} (hs : s.heap.IsSliceOf sl vl vu vs) (pl : IsPart vl none) (pu : IsPart vu none) (ps : IsPart vs (some (-1)))
    (h : Q ((n : Int) - 1, -1, n) s) : wpAny (model prog w) A (Builtin.Slice.sliceApplied (.ref sl) (pure (n : Int))) Q E s := by
  obtain ⟨os, hos, hcs, hds⟩ := id hs
  unfold Builtin.Slice.sliceApplied Builtin.Slice.sliceFields
  refine wpAny_bind (wpAny_bind (wpAny_field hos hds (x := vl) rfl (wpAny_bind (wpAny_field hos hds (x := vu) rfl (wpAny_bind (wpAny_field hos hds (x := vs) rfl (wpAny_pure ?_)))))))
  refine wpAny_bind (HT.slicePart_ ps ?_)
  show wpAny _ _ (if ((-1 : Int) == 0) = true then _ else _) _ _ s
  rw [if_neg (by decide)]
  refine wpAny_bind (HT.slicePart_ pl (wpAny_bind (HT.slicePart_ pu (wpAny_bind (wpAny_pure ?_)))))
  show wpAny _ _ (match Builtin.Slice.sliceAdjust none none (-1) (n : Int) with | (lo, hi) => pure (lo, (-1 : Int), Builtin.Slice.slicePlaces lo hi (-1))) _ _ s
  rw [adjust_rev n]
  show wpAny _ _ (pure ((n : Int) - 1, (-1 : Int), Builtin.Slice.slicePlaces ((n : Int) - 1) (-1) (-1))) _ _ s
  rw [places_rev]
  exact wpAny_pure h
theorem getItem_tuple_rev {t sl : Addr} {items : Array Value} {vl vu vs : Value} {Q : Value → Shared → Prop} (ht : IsTup s.heap t items) (hs : s.heap.IsSliceOf sl vl vu vs) (pl : IsPart vl none) (pu : IsPart vu none) (ps : IsPart vs (some (-1)))
    (h : Q (.ref s.heap.objs.size) { s with heap := s.heap.push { cls := .type "tuple", data := .seq items.toList.reverse.toArray } })
    (hsz : items.size ≤ sizeLine) : wpAny (model prog w) A (getItem (.ref t) (.ref sl)) Q E s := by
  have htake : sizeOk (.seq items.toList.reverse.toArray) := by
    show items.toList.reverse.toArray.size ≤ sizeLine
    rw [List.size_toArray, List.length_reverse, Array.length_toList]
    exact hsz
  obtain ⟨os, hos, hcs, hds⟩ := id hs
  have hTs : s.TypeIs (.ref sl) "slice" := ⟨os, hos, hcs⟩
  unfold getItem
  try with_reducible refine wpAny_holding ?_
  first | refine wpAny_bind (wpAny_pure ?_) | skip
  refine wpAny_bind (wpAny_sequenceKey ht.typeIs (by decide) ?_)
  refine wpAny_bind (wpAny_callSpecial?_slot (name := Str.ofString "__getitem__") ht.typeIs PyProof.Rows.slot_tuple_getitem
    (wpAny_call_entry PyProof.Rows.slot_tuple_getitem ht.typeIs entry_tuple_getitem ?_ (args_tuple_getitem _ _)))
  show wpAny _ _ (Builtin.Tuple.tupleItemsOf (.ref t) >>= _) _ _ s
  refine wpAny_bind (tupleItemsOf_ ht ?_)
  refine wpAny_bind (wpAny_typeOf hTs ?_)
  rw [if_pos (by decide)]
  refine wpAny_bind (sliceApplied_rev hs pl pu ps ?_)
  have hno : ¬ ((((items.size : Int) - 1) == 0 && (-1 : Int) == 1 && items.size == items.size) = true) := by
    rw [show ((-1 : Int) == 1) = false by decide, Bool.and_false, Bool.false_and]
    exact Bool.false_ne_true
  show wpAny _ _ (if (((items.size : Int) - 1) == 0 && (-1 : Int) == 1 && items.size == items.size) = true then _ else _) _ _ s
  rw [if_neg hno, pick_rev]
  first
    | exact wpAny_bind (m := Builtin.Tuple.tupleExact _) (wpAny_newObj_type (wpAny_pure ⟨_, rfl, wpAny_pure h⟩) htake)
    | exact wpAny_bind (m := Builtin.Tuple.tupleExact _) (wpAny_newObj_type (wpAny_bind (wpAny_pure (wpAny_pure ⟨_, rfl, wpAny_pure h⟩))) htake)
    | exact wpAny_bind (wpAny_bind (m := Builtin.Tuple.tupleExact _) (wpAny_newObj_type (wpAny_pure (wpAny_pure ⟨_, rfl, wpAny_pure h⟩)) htake))
    | exact wpAny_bind (wpAny_bind (m := Builtin.Tuple.tupleExact _) (wpAny_newObj_type (wpAny_pure ⟨_, rfl, wpAny_pure h⟩) htake))
end
def rdO (Z : Zx) (W : WX) (K : PySem.W.Frag) (mg : Str → Option Value) (x : Ox) : TO := fun σ H Q => ∃ Fz ρ st, Sit Z.T Z.p Fz H st ∧ ER ⟨K, Z.p, Z.L⟩ Fz H σ ρ ∧
  Out Z W K mg σ Fz H (evO Z.G x ρ st) fun o st' Fz' H' => ∀ l, intO o l → Q l H'
section
variable {Z : Zx} {W : WX} {X : Cx} {lv : Nat} {a b c e : Expr} {xa xb xc : Ex} {pos p1 p2 p3 : Pos} {pins : List (Addr × Obj)} {s : Shared} {σ : L2.St} {H H0 : Hp} {Fz : Addr → Prop} {ρ : List Sl} {st : Pot}
theorem o_no (g : Good Z W X lv) : PO X none (rdO Z W X.K X.mg .no) :=
  ⟨fun pins s σ H Q I ⟨Fz, ρ, st, S, E, h⟩ => po_none.run pins s σ H Q I (h Fz H Ext.refl S none rfl)⟩
theorem o_so (g : Good Z W X lv) (ha : PE X a (rdE Z W X.K X.mg xa)) : PO X (some a) (rdO Z W X.K X.mg (.so xa)) := by
  refine ⟨fun pins s σ H Q I ⟨Fz, ρ, st, S, E, h⟩ => ?_⟩
  rw [evalPart_some]
  simp only [evO] at h
  refine seqD ha I S E h fun v s1 w1 d1 k1 st1 Fz1 H1 I1 r1 e1 S1 E1 v1 h1 => ?_
  split at h1
  · rename_i i
    rw [v1.int] at r1
    obtain ⟨t, rfl⟩ := r1
    exact ⟨some i, H1, I1, .int i t, h1 Fz1 H1 Ext.refl S1 _ ⟨i, rfl, rfl⟩⟩
  · exact h1.elim
theorem evO_int {G : GT} {x : Ox} {o : Option PyData} {st' : Pot} (h : evO G x ρ st = .ok o st') : ∃ l, intO o l := by
  cases x with
  | no => simp only [evO] at h; cases h; exact ⟨none, rfl⟩
  | so e =>
    simp only [evO] at h
    cases q : ev G e ρ st with
    | ok v st1 =>
      rw [q] at h
      obtain ⟨v, k⟩ := v
      cases v with
      | d d =>
        have h : (match d with | .int i => (.ok (some (.int i)) st1 : Res (Option PyData)) | _ => .bad) = .ok o st' := h
        cases d with
        | int i =>
          cases h
          exact ⟨some i, i, rfl, rfl⟩
        | none => cases h
        | bool b => cases h
        | str x => cases h
        | list x => cases h
        | tuple x => cases h
        | dict x => cases h
      | pot => cases h
      | lam m => cases h
      | lams m => cases h
    | exc c x st1 => rw [q] at h; cases h
    | bad => rw [q] at h; cases h
theorem seqO {x : Ox} {eo : Option Expr} {β : Type} {f : Option PyData → Pot → Res β} {q : β → Pot → (Addr → Prop) → Hp → Prop} {Φ : Value → Shared → Prop} (he : PO X eo (rdO Z W X.K X.mg x)) (I : Inv X pins σ H s) (S : Sit Z.T Z.p Fz H st) (E : ER (rc Z X) Fz H σ ρ)
    (h : Out Z W X.K X.mg σ Fz H ((evO Z.G x ρ st).bind f) q)
    (k : ∀ u s1 l o st1 Fz1 H1, Inv X pins σ H1 s1 → IsPart u l → intO o l → Ext Z.p Fz H Fz1 H1 → Sit Z.T Z.p Fz1 H1 st1 → ER (rc Z X) Fz1 H1 σ ρ → Out Z W X.K X.mg σ Fz1 H1 (f o st1) q → Φ u s1) :
    wpAny (model X.prog X.w) X.A (evalPart eo X.env) Φ X.xe s := by
  refine thn (he.run pins s σ H (fun l H1 => ∃ o st1 Fz1, Ext Z.p Fz H Fz1 H1 ∧ Sit Z.T Z.p Fz1 H1 st1 ∧ intO o l ∧ Out Z W X.K X.mg σ Fz1 H1 (f o st1) q) I
    ⟨Fz, ρ, st, S, E, Out.mono (Out.bind h) fun o st1 Fz1 H1 er ⟨e1, s1, o'⟩ l hl => ⟨o, st1, Fz1, e1, s1, hl, o'⟩⟩) fun u s1 ⟨l, H1, I1, r1, o, st1, Fz1, e1, S1, hl, o'⟩ => ?_
  exact k u s1 l o st1 Fz1 H1 I1 r1 hl e1 S1 (E.ext S e1) o'
theorem k_slc {lo hi : Option Expr} {xl xh : Ox} (g : Good Z W X lv) (ha : PE X a (rdE Z W X.K X.mg xa)) (hl : PO X lo (rdO Z W X.K X.mg xl)) (hu : PO X hi (rdO Z W X.K X.mg xh)) : PE X (.Subscript a (.Slice lo hi none p2) pos) (rdE Z W X.K X.mg (.slc xa xl xh)) := by
  refine ⟨fun pins s σ H Q I ⟨Fz, ρ, st, S, E, h⟩ => ?_⟩
  simp only [ev] at h
  refine Subscript_ (seqD ha I S E h fun v s1 w1 d1 k1 st1 Fz1 H1 I1 r1 e1 S1 E1 v1 h1 => ?_)
  refine wpAny_Slice (seqO hl I1 S1 E1 h1 fun vl s2 l ol st2 Fz2 H2 I2 pl il e2 S2 E2 h2 => seqO hu I2 S2 E2 h2 fun vu s3 u oh st3 Fz3 H3 I3 pu iu e3 S3 E3 h3 => ?_)
  rw [evalPart_none]
  refine wpAny_pure ?_
  obtain ⟨z, hz, q⟩ := Out.doneK h3 (fun a h => e1.fresh a (e2.fresh a (e3.fresh a h)))
  have q3 := slc_at S3 E3 ((v1.move S1 e2).move S2 e3) il iu hz q
  have I4 : Inv X pins σ H3 { s3 with heap := s3.heap.push { cls := .type "slice", data := .fields #[vl, vu, .none] } } := I3.kept (t' := s3.toks) fun b ob q => Heap.get?_push_of_some _ q
  obtain ⟨T, id, hT, ht, hg⟩ := (SlR.or sl_list sl_tupA) pins { s3 with heap := s3.heap.push { cls := .type "slice", data := .fields #[vl, vu, .none] } } σ H3 w1 v vl vu l u s3.heap.objs.size Q I4 r1 (Heap.IsSliceOf.new ..) pl pu q3
  show wpAny (model X.prog X.w) X.A (subscriptTail a (.Slice lo hi none p2) v (.ref s3.heap.objs.size)) (EP X pins σ Q) X.xe { s3 with heap := s3.heap.push { cls := .type "slice", data := .fields #[vl, vu, .none] } }
  exact tail_any (ops := [.ref s3.heap.objs.size, v]) ht hT hg (by with_unfolding_all rfl)
theorem k_rev {k : Nat} (g : Good Z W X lv) (ha : PE X a (rdE Z W X.K X.mg xa)) : PE X (.Subscript a (.Slice none none (some (.UnaryOp .USub (.Constant (.int 1) k p1) p2)) p3) pos) (rdE Z W X.K X.mg (.rev xa)) := by
  refine ⟨fun pins s σ H Q I ⟨Fz, ρ, st, S, E, h⟩ => ?_⟩
  simp only [ev] at h
  refine Subscript_ (seqD ha I S E h fun v s1 w1 d1 k1 st1 Fz1 H1 I1 r1 e1 S1 E1 v1 h1 => ?_)
  obtain ⟨z, hz, q⟩ := Out.doneK h1 e1.fresh
  have hst : PO X (some (.UnaryOp .USub (.Constant (.int 1) k p1) p2)) (tPart (tUn (rU fun i => .int (-i)) (tC (.int 1)))) := po_some (pe_un un_neg pe_int)
  refine wpAny_Slice (thn (po_none.run pins s1 σ H1 (fun o H2 => o = none ∧ H2 = H1) I1 ⟨rfl, rfl⟩) fun vl s2 ⟨l, H2, I2, pl, el, e2⟩ => ?_)
  subst el e2
  refine thn (po_none.run pins s2 σ H2 (fun o H3 => o = none ∧ H3 = H2) I2 ⟨rfl, rfl⟩) fun vu s3 ⟨u, H3, I3, pu, eu, e3⟩ => ?_
  subst eu e3
  refine thn (hst.run pins s3 σ H3 (fun o H4 => o = some (-1) ∧ H4 = H3) I3 ⟨1, rfl, -1, rfl, rfl, rfl⟩) fun vs s4 ⟨o, H4, I4, ps, eo, e4⟩ => ?_
  subst eo e4
  have I5 : Inv X pins σ H4 { s4 with heap := s4.heap.push { cls := .type "slice", data := .fields #[vl, vu, vs] } } := I4.kept (t' := s4.toks) fun b ob q => Heap.get?_push_of_some _ q
  unfold revD at hz
  split at hz
  · rename_i ds
    cases hz
    obtain ⟨a', xs, rfl, hx, ra⟩ := v1.lstS E1
    cases r1
    obtain ⟨its, r, ht, hz⟩ := I5.list hx
    have hlen := r.length
    show wpAny (model X.prog X.w) X.A (subscriptTail a (.Slice none none (some (.UnaryOp .USub (.Constant (.int 1) k p1) p2)) p3) (.ref a') (.ref s4.heap.objs.size)) (EP X pins σ Q) X.xe { s4 with heap := s4.heap.push { cls := .type "slice", data := .fields #[vl, vu, vs] } }
    refine tail_any (ops := [.ref a', .ref s4.heap.objs.size]) ht.isList.typeIs (PySem.slot_list_getitem.lookup) ?_ (by with_unfolding_all rfl)
    refine wpAny_getItem_list_slice ht.isList (Heap.IsSliceOf.new _ vl vu vs) pl pu ps (by decide) ?_ (by rw [List.size_toArray]; omega)
    rw [PySem.W.krv_pick]
    refine ⟨.ref _, _, I5.laid (t' := s4.toks) (o := .lst xs.reverse) (fun b ob q => Heap.get?_push_of_some _ q) (Nat.le_refl _) ?_, rfl, q.lst S1 (I5.hok.fresh (Nat.le_refl _)) ra.reverse⟩
    exact ⟨by rw [List.length_reverse]; exact hz, _, 0, r.reverse, Heap.get?_push_size _ rfl⟩
  · rename_i ds
    cases hz
    obtain ⟨a', xs, rfl, hx, ra⟩ := v1.tupS
    cases r1
    obtain ⟨its, r, ht, hz⟩ := I5.tuple hx
    have hlen := r.length
    show wpAny (model X.prog X.w) X.A (subscriptTail a (.Slice none none (some (.UnaryOp .USub (.Constant (.int 1) k p1) p2)) p3) (.ref a') (.ref s4.heap.objs.size)) (EP X pins σ Q) X.xe { s4 with heap := s4.heap.push { cls := .type "slice", data := .fields #[vl, vu, vs] } }
    refine tail_any (ops := [.ref a', .ref s4.heap.objs.size]) ht.typeIs (PyProof.Rows.slot_tuple_getitem.lookup) ?_ (by with_unfolding_all rfl)
    refine getItem_tuple_rev ht (Heap.IsSliceOf.new _ vl vu vs) pl pu ps ?_ (by rw [List.size_toArray]; omega)
    refine ⟨.ref _, _, I5.laid (t' := s4.toks) (o := .tup xs.reverse) (fun b ob q => Heap.get?_push_of_some _ q) (Nat.le_refl _) ?_, rfl, q.tup S1 (I5.hok.fresh (Nat.le_refl _)) ra.reverse⟩
    exact ⟨by rw [List.length_reverse]; exact hz, _, r.reverse, IsTup.new _ _⟩
  · cases hz
end
end PyD
namespace PyD
open PySem PySem.Spec PyProof.Rows L2
/-! ### a list or a tuple, walked -/
def SqX (k : Bool) (K : PySem.W.Frag) (H : Hp) (a : Addr) (xs : List V) : Prop := match k with
  | true => SqT K H a xs
  | false => SqL K H a xs
def SrcI (k : Bool) (h : Heap) (it a : Addr) (i : Nat) : Prop := match k with
  | true => h.IsTupleIter it a i
  | false => h.IsListIter it a i
def SrcO (k : Bool) (h : Heap) (a : Addr) (items : Array Value) : Prop := match k with
  | true => h.IsTuple a items
  | false => h.IsList a items
def srcObj (k : Bool) (a : Addr) : Obj := match k with
  | true => { cls := .type "tuple_iterator", data := .fields #[.ref a, .int 0 0] }
  | false => { cls := .type "list_iterator", data := .fields #[.ref a, .int 0 0] }
section
variable {X : Cx} {pins : List (Addr × Obj)} {σ : L2.St} {H : Hp} {s : Shared} {k : Bool} {a it : Addr} {xs ys : List V} {i : Nat}
theorem sqX_of (I : Inv X pins σ H s) (h : SqX k X.K H a xs) : ∃ its : List Value, Vals xs its ∧ SrcO k s.heap a its.toArray ∧ xs.length ≤ sizeLine ∧ a < s.heap.objs.size := by
  cases k with
  | true =>
    obtain ⟨its, r, p, z⟩ := I.tuple h
    exact ⟨its, r, p, z, p.lt⟩
  | false =>
    obtain ⟨its, r, p, z⟩ := I.list h
    exact ⟨its, r, p.isList, z, p.lt⟩
theorem sqX_inj (I : Inv X pins σ H s) (h : SqX k X.K H a xs) (h' : SqX k X.K H a ys) : xs = ys := by
  cases k with
  | true => exact I.tuple_inj h h'
  | false => exact I.list_inj h h'
theorem src_start {h : Heap} (e : h.get? it = some (srcObj k a)) : SrcI k h it a 0 := by
  cases k with
  | true => exact ⟨_, e, rfl, rfl⟩
  | false => exact ⟨_, e, rfl, rfl⟩
theorem src_at {h h' : Heap} (e : SrcI k h it a i) (q : ∀ o, h.get? it = some o → h'.get? it = some o) : SrcI k h' it a i := by
  cases k with
  | true => exact Heap.IsTupleIter.at e q
  | false => exact Heap.IsListIter.at e q
theorem src_obj {h : Heap} (e : SrcI k h it a i) : ∃ o, h.get? it = some o ∧ ∀ v, o.data ≠ .cell v := by
  cases k with
  | true =>
    obtain ⟨o, e1, e2, e3⟩ := e
    exact ⟨o, e1, fun v q => by rw [e3] at q; cases q⟩
  | false =>
    obtain ⟨o, e1, e2, e3⟩ := e
    exact ⟨o, e1, fun v q => by rw [e3] at q; cases q⟩
end
theorem draws_src {prog : Program} {w : World} {A : Around} (hh : A.handled = none) (k : Bool) (it a : Addr) (hne : a ≠ it) (items : Array Value) :
    Draws prog w A it [it, a] items.size (fun i v => items[i]? = some v) (fun i h => SrcI k h it a i ∧ SrcO k h a items) := by
  cases k with
  | true => exact Draws.tuple hh it a hne items
  | false => exact Draws.list hh it a hne items
theorem begins_src (k : Bool) (a : Addr) (items : Array Value) : Begins (.ref a) (srcObj k a) fun h => SrcO k h a items := by
  cases k with
  | true => exact begins_tuple a items
  | false => exact begins_list a items
/-! ### enumerate -/
set_option maxHeartbeats 1000000 in
theorem meets_enum1 {v : Value} {o : Obj} {H : Heap → Prop} (B : Begins v o H) :
    Meets (Builtin.«enumerate.__new__» ⟨[.type "enumerate", v], []⟩) (fun _ R s => H s.heap ∧
      R (.ok (.ret (.ref (s.heap.push o).objs.size))) { s with heap := (s.heap.push o).push { cls := .type "enumerate", data := .fields #[.none, .bool false, .ref s.heap.objs.size, rawInt 0, .none, .none] } }) :=
  .of_wp fun prog w A R s h => by
    obtain ⟨hp, g, d, tk, os⟩ := s; obtain ⟨h1, h⟩ := h
    have hsub := sub_enumerate
    have q1 : ∀ {A' : Around} {E : Value → Shared → Prop} {Q : Value → Shared → Prop}, Q (.ref hp.objs.size) ⟨hp.push o, g, d, tk, os⟩ → wpAny (model prog w) A' (pyIter v) Q E ⟨hp, g, d, tk, os⟩ :=
      fun q => B.iter prog w _ _ ⟨hp, g, d, tk, os⟩ _ h1 q
    wp_walk using q1
    refine wpAny_stack_any fun st => wpAny_pure ?_
    split
    · rename_i c _ _ _ _ _
      cases (c == Value.type "enumerate")
      · wp_walk using q1
        exact ⟨_, rfl, h⟩
      · wp_walk using q1
        exact ⟨_, rfl, h⟩
    · wp_walk using q1
      exact ⟨_, rfl, h⟩
theorem enum_begins1 {prog : Program} {w : World} {A : Around} {E : Value → Shared → Prop} {s : Shared} {v : Value} {o : Obj} {H : Heap → Prop} {Q : Value → Shared → Prop} (B : Begins v o H) (h1 : H s.heap)
    (h : ∀ h', IsEnum h' (s.heap.objs.size + 1) s.heap.objs.size 0 .none → h'.get? s.heap.objs.size = some o → h'.objs.size = s.heap.objs.size + 2 →
      (∀ b o, s.heap.get? b = some o → h'.get? b = some o) → Q (.ref (s.heap.objs.size + 1)) { s with heap := h' }) :
    wpAny (model prog w) A (call (.type "enumerate") [v]) Q E s := by
  refine callType_new F.called_enumerate (by decide) (F.typeCall_enumerate_1 _) (F.newCall_enumerate_1 _) (fun obj => F.args_object_init_2 obj _) F.entry_enumerate_new
    (meets_enum1 B) ⟨h1, ?_⟩
  have hz : (s.heap.push o).objs.size = s.heap.objs.size + 1 := Heap.size_push ..
  show _ ∧ _
  rw [hz]
  have he : IsEnum ((s.heap.push o).push { cls := .type "enumerate", data := .fields #[.none, .bool false, .ref s.heap.objs.size, rawInt 0, .none, .none] }) (s.heap.objs.size + 1) s.heap.objs.size 0 .none := by
    have := Heap.get?_push_size (s.heap.push o) (o := { cls := .type "enumerate", data := .fields #[.none, .bool false, .ref s.heap.objs.size, rawInt 0, .none, .none] }) rfl
    rw [hz] at this; exact this
  refine ⟨⟨_, he, rfl⟩, h _ he (Heap.get?_push_of_some _ (Heap.get?_push_size _ B.free)) (by rw [Heap.size_push, hz]) fun b o x => Heap.get?_push_of_some _ (Heap.get?_push_of_some _ x)⟩
/-- what enumerate yields -/
def ItE (k : Bool) (K : PySem.W.Frag) (a : Addr) : L2.It :=
  ⟨fun i H => ∃ (xs : List V) (x : V), SqX k K H a xs ∧ xs[i]? = some x, fun i H v H' => ∃ T x, v = .ref T ∧ H T = none ∧ H' = upd H T (.tup [.int (i : Nat), x]) ∧ ∀ xs, SqX k K H a xs → xs[i]? = some x, fun i H => ∃ xs : List V, SqX k K H a xs ∧ i = xs.length⟩
theorem turn_E {P : Program} {w : World} {K : PySem.W.Frag} {elts : List Expr} {kk : Nat} {tpos : Pos} (k : Bool) (a e it : Addr) (ea : e ≠ a) (ia : it ≠ a) :
    Turn P w K (.Tuple elts kk tpos) (ItE k K a) [e, it] e (fun i h => (∃ old, IsEnum h e it ((i : Nat) : Int) old) ∧ SrcI k h it a i ∧ e ≠ it) where
  mem := by simp
  obj := fun i h st b hb => by
    obtain ⟨⟨old, he⟩, hi, _⟩ := st
    have e' : b = e ∨ b = it := by simpa using hb
    rcases e' with z | z
    · rw [z]; exact ⟨_, he, fun v q => nomatch q⟩
    · rw [z]; exact src_obj hi
  keep := fun i h h' st k => let ⟨⟨old, he⟩, hi, hne⟩ := st; ⟨⟨old, k e (by simp) _ he⟩, src_at hi fun o q => k it (by simp) o q, hne⟩
  item := by
    intro X hP hw hK hc i pins s σ H E I hf st hg
    subst hP hw hK
    obtain ⟨⟨old, he⟩, hit, hne⟩ := st
    obtain ⟨xs, x, hq, hx⟩ := hg
    obtain ⟨its, rv, p, hz, al⟩ := sqX_of I hq
    obtain ⟨u, hu, ru⟩ := rv.get hx
    have hel : e < s.heap.objs.size := Heap.lt_size he
    have hil : it < s.heap.objs.size := by obtain ⟨_, q, _⟩ := src_obj hit; exact Heap.lt_size q
    have hlt : i < its.toArray.size := by
      rw [List.size_toArray]
      exact (List.getElem?_eq_some_iff.mp hu).1
    refine wpAny_pyNext_enum_itemD (draws_src (show X.A.in1.handled = none from I.ok.hd hc) k it a (Ne.symm ia) its.toArray) he ⟨hit, p⟩ hlt hne (by simp; exact ⟨hne, ea⟩) fun u' h' tk hP ho hst' hT hsz hk => ?_
    have eu : u' = u := by
      have hP : its.toArray[i]? = some u' := hP
      simp only [List.getElem?_toArray] at hP
      rw [hu] at hP
      exact (Option.some.inj hP).symm
    subst eu
    refine ⟨_, rfl, wpAny_letOwnedTupleGo_enum (s := { s with heap := h', toks := tk + 1 }) ho fun h'' he' sb => ?_⟩
    have hT2 : h''.get? s.heap.objs.size = some { cls := .type "tuple", data := .seq #[.int i tk, u'] } := (sb.2 _ (Nat.ne_of_gt hel)).trans hT
    have new : ObjOk X.prog X.w (upd H s.heap.objs.size (.tup [.int (i : Nat), x])) h'' s.heap.objs.size (.tup [.int (i : Nat), x]) :=
      ⟨by show 2 ≤ sizeLine; decide, [.int i tk, u'], .cons ⟨_, rfl⟩ (.cons ru .nil), ⟨_, hT2, rfl, _, rfl⟩⟩
    have I1 : Inv X pins σ (upd H s.heap.objs.size (.tup [.int (i : Nat), x])) { s with heap := h'', toks := tk + 1 } :=
      I.turnedNew (ch := [e, it]) (fun b ob hb q => (sb.2 b (fun z => hb (by simp [z]))).trans (hk b ob (fun z => hb (by simp [z])) (fun z => hb (by simp [z])) q)) hf (Nat.le_refl _) new
    refine ⟨.ref s.heap.objs.size, _, I1, rfl, ⟨_, x, rfl, I.hok.fresh (Nat.le_refl _), rfl, fun ys hy => by rw [sqX_inj I hy hq]; exact hx⟩, ⟨⟨u', ?_⟩, src_at hst'.1 fun o q => (sb.2 it (Ne.symm hne)).trans q, hne⟩, fun b hb => ?_⟩
    · have e1 : ((i + 1 : Nat) : Int) = (i : Int) + 1 := by omega
      rw [e1]; exact he'
    · have hb' : b < s.heap.objs.size := by
        have e' : b = e ∨ b = it := by simpa using hb
        rcases e' with z | z
        · rw [z]; exact hel
        · rw [z]; exact hil
      rw [upd_ne (Nat.ne_of_lt hb')]
      exact (hf b hb).1
  done := by
    intro X hP hw hK hc i pins s σ H E I hf st hg
    subst hP hw hK
    obtain ⟨⟨old, he⟩, hit, hne⟩ := st
    obtain ⟨xs, hq, hx⟩ := hg
    obtain ⟨its, rv, p, hz, al⟩ := sqX_of I hq
    obtain ⟨f0, f1, f2, f3, f4, f5⟩ := hf it (by simp)
    have hl := rv.length
    have hn : i = its.toArray.size := by rw [List.size_toArray, ← hl]; exact hx
    exact wpAny_pyNext_enum_endD (draws_src (show X.A.in1.handled = none from I.ok.hd hc) k it a (Ne.symm ia) its.toArray) he (by rw [← hn]; exact ⟨hit, p⟩) fun h' eb => ⟨rfl, I.turned (t' := s.toks) (fun b o hb q => eb b o hb q) f0 f1 f3 f4 f5⟩
  self := fun A i s Q E st h => let ⟨⟨_, he⟩, _⟩ := st; wpAny_pyIter_enum he h
/-! ### zip -/
def ItZ (k1 k2 : Bool) (K : PySem.W.Frag) (a b : Addr) : L2.It :=
  ⟨fun i H => ∃ (xs ys : List V) (x y : V), SqX k1 K H a xs ∧ SqX k2 K H b ys ∧ xs[i]? = some x ∧ ys[i]? = some y,
    fun i H v H' => ∃ T x y, v = .ref T ∧ H T = none ∧ H' = upd H T (.tup [x, y]) ∧ (∀ xs, SqX k1 K H a xs → xs[i]? = some x) ∧ ∀ ys, SqX k2 K H b ys → ys[i]? = some y,
    fun i H => ∃ xs ys : List V, SqX k1 K H a xs ∧ SqX k2 K H b ys ∧ i ≤ xs.length ∧ i ≤ ys.length ∧ (i = xs.length ∨ i = ys.length)⟩
structure Apart (z TI TO i1 i2 a b : Addr) : Prop where
  TIz : TI ≠ z
  TOz : TO ≠ z
  TITO : TI ≠ TO
  TIi1 : TI ≠ i1
  TIi2 : TI ≠ i2
  z1 : z ≠ i1
  z2 : z ≠ i2
  T1 : TO ≠ i1
  T2 : TO ≠ i2
  i12 : i1 ≠ i2
  za : z ≠ a
  zb : z ≠ b
  Ta : TO ≠ a
  Tb : TO ≠ b
  a1 : a ≠ i1
  a2 : a ≠ i2
  b1 : b ≠ i1
  b2 : b ≠ i2
theorem Apart.sep {z TI TO i1 i2 a b : Addr} (D : Apart z TI TO i1 i2 a b) : ZipSep2 z TI TO i1 i2 [i1, a] [i2, b] :=
  ⟨D.TIz, D.TOz, D.TITO, D.TIi1, by simp, by simp; exact ⟨D.z1, D.za⟩, by simp; exact ⟨D.T1, D.Ta⟩, D.TIi2, by simp, by simp; exact ⟨D.z2, D.zb⟩, by simp; exact ⟨D.T2, D.Tb⟩, by simp; exact ⟨D.i12, fun e => D.b1 e.symm⟩, by simp; exact ⟨fun e => D.i12 e.symm, fun e => D.a2 e.symm⟩⟩
theorem apart_new (n a b : Nat) (h1 : a < n) (h2 : b < n) : Apart (n + 4) (n + 2) (n + 3) n (n + 1) a b := by
  constructor <;> (refine PySem.W.neN ?_; omega)
theorem turn_Z {P : Program} {w : World} {K : PySem.W.Frag} {elts : List Expr} {kk : Nat} {tpos : Pos} {k1 k2 : Bool} {a b z TI TO i1 i2 : Addr} (D : Apart z TI TO i1 i2 a b) :
    Turn P w K (.Tuple elts kk tpos) (ItZ k1 k2 K a b) [z, TI, TO, i1, i2] z (fun i h => IsZip h z TI TO .none ∧ IsTupOf2 h TI (.ref i1) (.ref i2) ∧ (∃ x y, IsTupOf2 h TO x y) ∧ SrcI k1 h i1 a i ∧ SrcI k2 h i2 b i) where
  mem := by simp
  obj := fun i h st c hc => by
    obtain ⟨hz, hTI, ⟨x, y, hTO⟩, h1, h2⟩ := st
    have e' : c = z ∨ c = TI ∨ c = TO ∨ c = i1 ∨ c = i2 := by simpa using hc
    rcases e' with q | q | q | q | q
    · rw [q]; exact ⟨_, hz, fun v q => nomatch q⟩
    · rw [q]; exact ⟨_, hTI, fun v q => nomatch q⟩
    · rw [q]; exact ⟨_, hTO, fun v q => nomatch q⟩
    · rw [q]; exact src_obj h1
    · rw [q]; exact src_obj h2
  keep := fun i h h' st k => by
    obtain ⟨hz, hTI, ⟨x, y, hTO⟩, h1, h2⟩ := st
    exact ⟨k z (by simp) _ hz, k TI (by simp) _ hTI, ⟨x, y, k TO (by simp) _ hTO⟩, src_at h1 fun o q => k i1 (by simp) o q, src_at h2 fun o q => k i2 (by simp) o q⟩
  item := by
    intro X hP hw hK hc i pins s σ H E I hf st hg
    subst hP hw hK
    obtain ⟨hz, hTI, ⟨x0, y0, hTO⟩, h1, h2⟩ := st
    obtain ⟨xs, ys, x, y, hqx, hqy, hx, hy⟩ := hg
    obtain ⟨its, rv, p, _, _⟩ := sqX_of I hqx
    obtain ⟨its2, rv2, p2, _, _⟩ := sqX_of I hqy
    obtain ⟨u, hu, ru⟩ := rv.get hx
    obtain ⟨u2, hu2, ru2⟩ := rv2.get hy
    have hzl : z < s.heap.objs.size := Heap.lt_size hz
    have hh : X.A.in1.handled = none := I.ok.hd hc
    refine wpAny_pyNext_zipD2_item D.sep (draws_src hh k1 i1 a D.a1 its.toArray) (draws_src hh k2 i2 b D.b2 its2.toArray) hz hTI hTO ⟨h1, p⟩ ⟨h2, p2⟩ (by rw [List.size_toArray]; exact (List.getElem?_eq_some_iff.mp hu).1) (by rw [List.size_toArray]; exact (List.getElem?_eq_some_iff.mp hu2).1)
      fun u' u2' h' tk hP1 hP2 z' TO' s1' s2' hT hsz hk => ?_
    have eu : u' = u := by
      have hP : its.toArray[i]? = some u' := hP1
      simp only [List.getElem?_toArray] at hP
      rw [hu] at hP
      exact (Option.some.inj hP).symm
    have eu2 : u2' = u2 := by
      have hP : its2.toArray[i]? = some u2' := hP2
      simp only [List.getElem?_toArray] at hP
      rw [hu2] at hP
      exact (Option.some.inj hP).symm
    subst eu eu2
    refine ⟨_, rfl, wpAny_letOwnedTupleGo_zip (s := { s with heap := h', toks := tk }) z' fun h'' z'' sb => ?_⟩
    have hT2 : h''.get? s.heap.objs.size = some { cls := .type "tuple", data := .seq #[u', u2'] } := (sb.2 _ (Nat.ne_of_gt hzl)).trans hT
    have new : ObjOk X.prog X.w (upd H s.heap.objs.size (.tup [x, y])) h'' s.heap.objs.size (.tup [x, y]) :=
      ⟨by show 2 ≤ sizeLine; decide, [u', u2'], .cons ru (.cons ru2 .nil), ⟨_, hT2, rfl, _, rfl⟩⟩
    have I1 : Inv X pins σ (upd H s.heap.objs.size (.tup [x, y])) { s with heap := h'', toks := tk } :=
      I.turnedNew (t' := tk) (ch := [z, TI, TO, i1, i2]) (fun c o hb q => (sb.2 c (fun q' => hb (by simp [q']))).trans (hk c o (fun q' => hb (by simp [q'])) (fun q' => hb (by simp [q'])) (fun q' => hb (by simp [q'])) (fun q' => hb (by simp [q'])) q)) hf (Nat.le_refl _) new
    refine ⟨.ref s.heap.objs.size, _, I1, rfl, ⟨_, x, y, rfl, I.hok.fresh (Nat.le_refl _), rfl, fun l hl => by rw [sqX_inj I hl hqx]; exact hx, fun l hl => by rw [sqX_inj I hl hqy]; exact hy⟩, ⟨z'', ?_, ⟨u', u2', ?_⟩, ?_, ?_⟩, fun c hcm => ?_⟩
    · exact (sb.2 _ D.TIz).trans (hk _ _ D.TIz D.TITO D.TIi1 D.TIi2 hTI)
    · exact (sb.2 _ D.TOz).trans TO'
    · exact src_at s1'.1 fun o q => (sb.2 _ D.z1.symm).trans q
    · exact src_at s2'.1 fun o q => (sb.2 _ D.z2.symm).trans q
    · have hlt : c < s.heap.objs.size := by
        have e' : c = z ∨ c = TI ∨ c = TO ∨ c = i1 ∨ c = i2 := by simpa using hcm
        rcases e' with q | q | q | q | q
        · rw [q]; exact hzl
        · rw [q]; exact Heap.lt_size hTI
        · rw [q]; exact Heap.lt_size hTO
        · rw [q]; obtain ⟨_, e1, _⟩ := src_obj h1; exact Heap.lt_size e1
        · rw [q]; obtain ⟨_, e2, _⟩ := src_obj h2; exact Heap.lt_size e2
      rw [upd_ne (Nat.ne_of_lt hlt)]
      exact (hf c hcm).1
  done := by
    intro X hP hw hK hc i pins s σ H E I hf st hg
    subst hP hw hK
    obtain ⟨hz, hTI, ⟨x0, y0, hTO⟩, h1, h2⟩ := st
    obtain ⟨xs, ys, hqx, hqy, l1, l2, hend⟩ := hg
    obtain ⟨its, rv, p, _, _⟩ := sqX_of I hqx
    obtain ⟨its2, rv2, p2, _, _⟩ := sqX_of I hqy
    have hh : X.A.in1.handled = none := I.ok.hd hc
    have e1 := rv.length
    have e2 := rv2.length
    exact wpAny_pyNext_zipD2_end D.sep (draws_src hh k1 i1 a D.a1 its.toArray) (draws_src hh k2 i2 b D.b2 its2.toArray) hz hTI hTO ⟨h1, p⟩ ⟨h2, p2⟩ (by rw [List.size_toArray, ← e1]; exact l1) (by rw [List.size_toArray, ← e2]; exact l2) (by rw [List.size_toArray, ← e1, List.size_toArray, ← e2]; exact hend)
      fun h' tk hk => ⟨rfl, I.turnedL (t' := tk) (ch := [z, TI, TO, i1, i2]) (fun c o hb q =>
      hk c o (fun q' => hb (by simp [q'])) (fun q' => hb (by simp [q'])) (fun q' => hb (by simp [q'])) (fun q' => hb (by simp [q'])) q) hf⟩
  self := fun A i s Q E st h => wpAny_pyIter_zip st.1 h
end PyD
namespace PyD
open PySem PySem.Spec PyProof.Rows L2
/-- what is kept while something is walked -/
def RelF (own : Bool) (p : Option Addr) (F : Addr → Prop) (H : Hp) (F2 : Addr → Prop) (H2 : Hp) : Prop :=
  (∀ a, F a → F2 a) ∧ ∀ a o, (own = true ∨ F a) → H a = some o → p ≠ some a → (∀ ps, o ≠ .tbl ps) → H2 a = some o
def Stays (own : Bool) (p : Option Addr) (K : PySem.W.Frag) (F : Addr → Prop) (H : Hp) (k : Bool) (a : Addr) (vs : List V) (ds : List PyData) : Prop :=
  ∀ F2 H2, RelF own p F H F2 H2 → SqX k K H2 a vs ∧ Rps K F2 H2 vs ds
theorem RelF.ext {own : Bool} {p : Option Addr} {F F2 : Addr → Prop} {H H2 : Hp} (e : Ext p F H F2 H2) : RelF own p F H F2 H2 := ⟨e.fz, fun a o _ => e.keep a o⟩
theorem RelF.refl {own : Bool} {p : Option Addr} {F : Addr → Prop} {H : Hp} : RelF own p F H F H := ⟨fun _ z => z, fun _ _ _ z _ _ => z⟩
theorem Stays.sub {own own' : Bool} {p : Option Addr} {K : PySem.W.Frag} {F F' : Addr → Prop} {H : Hp} {k : Bool} {a : Addr} {vs : List V} {ds : List PyData} (s : Stays own p K F H k a vs ds) (f : ∀ a, F a → F' a) (o : own = true → own' = true) : Stays own' p K F' H k a vs ds :=
  fun F2 H2 r => s F2 H2 ⟨fun a z => r.1 a (f a z), fun a u q => r.2 a u (q.elim (fun z => .inl (o z)) fun z => .inr (f a z))⟩
section
variable {K : PySem.W.Frag} {p : Option Addr} {L : Ls} {T : Tb} {H0 H : Hp} {Fz : Addr → Prop} {σ : L2.St} {ρ : List Sl} {st : Pot}
theorem Sit.kf (s : Sit T p Fz H st) {own : Bool} {F2 : Addr → Prop} {H2 : Hp} (r : RelF own p Fz H F2 H2) : ∀ a o, Fz a → H a = some o → H2 a = some o := fun a o z h => by
  obtain ⟨o', h', nt⟩ := s.fz a z
  rw [h] at h'
  cases h'
  exact r.2 a o (.inr z) h (fun q => (s.pot a q).2 z) nt
theorem VT.stay {w : V} {x : PyData} {k : Kd} {ds : List PyData} (s : Sit T p Fz H st) (E : ER ⟨K, p, L⟩ Fz H σ ρ) (h : VT ⟨K, p, L⟩ H0 Fz H σ ρ w (.d x) k) (hx : seqOf x = some ds) :
    ∃ F2, Frozen T p H0 Fz H st F2 ∧ ∃ kq a vs, w = .ref a ∧ Stays (k == .ow) p K F2 H kq a vs ds := by
  have fr0 : Frozen T p H0 Fz H st Fz := ⟨fun _ z => z, fun _ z => .inl z, s⟩
  cases x with
  | list es =>
    have e : es = ds := Option.some.inj hx
    subst e
    cases k with
    | cl =>
      have h : Rp K Fz H w (.list es) := h
      cases h with
      | @lst a xs _ q z r =>
        refine ⟨Fz, fr0, false, a, xs, rfl, fun F2 H2 rl => ?_⟩
        have kf := s.kf rl
        exact ⟨.inl (rd_move q fun o e => kf _ o z e), r.move rl.1 kf⟩
    | ow =>
      obtain ⟨i, es', h1, h2, h3⟩ := h
      cases h3
      obtain ⟨a, vs, g1, g2, g3, g4, g5⟩ := E.own i es h1
      rw [h2] at g1
      cases g1
      refine ⟨Fz, fr0, false, a, vs, rfl, fun F2 H2 rl => ?_⟩
      exact ⟨.inl (.inl (rl.2 a _ (.inl rfl) g2 g4 (fun ps z => by cases z))), g5.move rl.1 (s.kf rl)⟩
    | fr =>
      obtain ⟨a, vs, es', rfl, e2, e3, e4, e5, e6, e7⟩ := h
      cases e2
      obtain ⟨F2, f2, v2⟩ := VT.clean (K := K) (L := L) (σ := σ) (ρ := ρ) (w := .ref a) (x := .d (.list es)) (k := .fr) s ⟨a, vs, es, rfl, rfl, e3, e4, e5, e6, e7⟩ (fun z => by cases z)
      have v2 : Rp K F2 H (.ref a) (.list es) := v2
      cases v2 with
      | @lst a xs _ q z r =>
        refine ⟨F2, f2, false, a, xs, rfl, fun F3 H3 rl => ?_⟩
        have kf := f2.sit.kf rl
        exact ⟨.inl (rd_move q fun o e => kf _ o z e), r.move rl.1 kf⟩
  | tuple es =>
    have e : es = ds := Option.some.inj hx
    subst e
    have hk : ∀ F2 H2, RelF (k == .ow) p Fz H F2 H2 → ∀ a o, Fz a → H a = some o → H2 a = some o := fun F2 H2 rl => s.kf rl
    have h := h.other (fun _ z => by cases z)
    cases h with
    | @tup a xs _ q r =>
      refine ⟨Fz, fr0, true, a, xs, rfl, fun F2 H2 rl => ?_⟩
      refine ⟨?_, r.move rl.1 (hk F2 H2 rl)⟩
      rcases q with ⟨q, z⟩ | q
      · exact .inl (rd_move q fun o e => hk F2 H2 rl _ o z e)
      · exact sqT_nil q
  | none => cases hx
  | bool b => cases hx
  | int i => cases hx
  | str x => cases hx
  | dict ds => cases hx
end
/-- an iterator yields the data, over all that keeps what it walks -/
def ItD (own : Bool) (K : PySem.W.Frag) (p : Option Addr) (T : Tb) (J : L2.It) (xs : List PyData) (F : Addr → Prop) (H : Hp) : Prop :=
  ∀ F2 H2 st, RelF own p F H F2 H2 → Sit T p F2 H2 st → ∀ i, (∀ d, xs[i]? = some d → J.go i H2 ∧ ∀ x H3, J.yld i H2 x H3 → ∃ F3, Ext p F2 H2 F3 H3 ∧ Sit T p F3 H3 st ∧ Rp K F3 H3 x d) ∧ (i = xs.length → J.stop i H2)
def ItS (k : Bool) (K : PySem.W.Frag) (a : Addr) : L2.It := match k with
  | true => Itt K a
  | false => Itl K a
theorem turn_S {P : Program} {w : World} {K : PySem.W.Frag} {tg : Expr} (k : Bool) (a it : Addr) : Turn P w K tg (ItS k K a) [it] it (fun i h => SrcI k h it a i) := by
  cases k with
  | true => exact turn_tuple a it
  | false => exact turn_list a it
section
variable {K : PySem.W.Frag} {p : Option Addr} {T : Tb} {F : Addr → Prop} {H : Hp} {own : Bool}
theorem it_S {k : Bool} {a : Addr} {vs : List V} {ds : List PyData} (h : Stays own p K F H k a vs ds) : ItD own K p T (ItS k K a) ds F H := by
  intro F2 H2 st rl s i
  obtain ⟨h1, h2⟩ := h F2 H2 rl
  cases k with
  | true =>
    refine ⟨fun d hd => ?_, fun hi => ⟨vs, h1, by rw [h2.length]; omega⟩⟩
    obtain ⟨v, hv, rv⟩ := h2.get hd
    refine ⟨⟨vs, v, h1, hv⟩, fun x H3 ⟨e, y⟩ => ?_⟩
    subst e
    have e := y vs h1
    rw [hv] at e
    cases e
    exact ⟨F2, Ext.refl, s, rv⟩
  | false =>
    refine ⟨fun d hd => ?_, fun hi => ⟨vs, h1, by rw [h2.length]; omega⟩⟩
    obtain ⟨v, hv, rv⟩ := h2.get hd
    refine ⟨⟨vs, v, h1, hv⟩, fun x H3 ⟨e, y⟩ => ?_⟩
    subst e
    have e := y vs h1
    rw [hv] at e
    cases e
    exact ⟨F2, Ext.refl, s, rv⟩
theorem Rp.pair {F2 : Addr → Prop} {H2 : Hp} {st : Pot} {t : Addr} {x y : V} {d e : PyData} (s : Sit T p F2 H2 st) (ht : H2 t = none) (rx : Rp K F2 H2 x d) (ry : Rp K F2 H2 y e) :
    ∃ F3, Ext p F2 H2 F3 (upd H2 t (.tup [x, y])) ∧ Sit T p F3 (upd H2 t (.tup [x, y])) st ∧ Rp K F3 (upd H2 t (.tup [x, y])) (.ref t) (.tuple [d, e]) := by
  have mv : ∀ b o, F2 b → H2 b = some o → upd H2 t (.tup [x, y]) b = some o := fun b o _ q => by rw [upd_ne (ne_of_none q ht)]; exact q
  exact ⟨_, Ext.updF ht, s.updF ht (fun ps z => by cases z), Rp.tup (.inl ⟨.inl upd_same, .inr rfl⟩) (.cons (rx.move (fun _ z => .inl z) mv) (.cons (ry.move (fun _ z => .inl z) mv) .nil))⟩
theorem enumD_at : ∀ {ds : List PyData} {j i : Nat} {d : PyData}, (enumD j ds)[i]? = some d → ∃ e, ds[i]? = some e ∧ d = .tuple [.int ((j + i : Nat) : Int), e]
  | [], _, _, _, h => by simp [enumD] at h
  | x :: r, j, 0, d, h => by
    have e : PyData.tuple [.int (j : Nat), x] = d := by simpa [enumD] using h
    exact ⟨x, rfl, e.symm⟩
  | x :: r, j, i + 1, d, h => by
    have h : (enumD (j + 1) r)[i]? = some d := by simpa [enumD] using h
    obtain ⟨e, h1, h2⟩ := enumD_at h
    exact ⟨e, by simpa using h1, by rw [h2]; congr 4; omega⟩
theorem enumD_length : ∀ {ds : List PyData} {j : Nat}, (enumD j ds).length = ds.length
  | [], _ => rfl
  | _ :: r, j => by rw [enumD, List.length_cons, List.length_cons, enumD_length]
theorem it_E {k : Bool} {a : Addr} {vs : List V} {ds : List PyData} (h : Stays own p K F H k a vs ds) : ItD own K p T (ItE k K a) (enumD 0 ds) F H := by
  intro F2 H2 st rl s i
  obtain ⟨h1, h2⟩ := h F2 H2 rl
  refine ⟨fun d hd => ?_, fun hi => ⟨vs, h1, by rw [h2.length, hi, enumD_length]⟩⟩
  obtain ⟨e, he, rfl⟩ := enumD_at hd
  obtain ⟨v, hv, rv⟩ := h2.get he
  refine ⟨⟨vs, v, h1, hv⟩, fun x H3 ⟨t, y, e1, e2, e3, e4⟩ => ?_⟩
  subst e1 e3
  have e := e4 vs h1
  rw [hv] at e
  cases e
  have := Rp.pair (x := .int (i : Nat)) (d := .int ((0 + i : Nat) : Int)) s e2 (by rw [Nat.zero_add]; exact .int _) rv
  exact this
theorem zipD_at : ∀ {ds es : List PyData} {i : Nat} {d : PyData}, (zipD ds es)[i]? = some d → ∃ x y, ds[i]? = some x ∧ es[i]? = some y ∧ d = .tuple [x, y]
  | [], _, _, _, h => by simp [zipD] at h
  | _ :: _, [], _, _, h => by simp [zipD] at h
  | x :: r, y :: q, 0, d, h => by
    have e : PyData.tuple [x, y] = d := by simpa [zipD] using h
    exact ⟨x, y, rfl, rfl, e.symm⟩
  | x :: r, y :: q, i + 1, d, h => by
    have h : (zipD r q)[i]? = some d := by simpa [zipD] using h
    obtain ⟨x', y', h1, h2, h3⟩ := zipD_at h
    exact ⟨x', y', by simpa using h1, by simpa using h2, h3⟩
theorem zipD_length : ∀ {ds es : List PyData}, (zipD ds es).length = min ds.length es.length
  | [], _ => by simp [zipD]
  | _ :: _, [] => by simp [zipD]
  | _ :: r, _ :: q => by rw [zipD, List.length_cons, List.length_cons, List.length_cons, zipD_length]; omega
theorem it_Z {k1 k2 : Bool} {a b : Addr} {vs ws : List V} {ds es : List PyData} (h : Stays own p K F H k1 a vs ds) (h' : Stays own p K F H k2 b ws es) : ItD own K p T (ItZ k1 k2 K a b) (zipD ds es) F H := by
  intro F2 H2 st rl s i
  obtain ⟨h1, h2⟩ := h F2 H2 rl
  obtain ⟨h3, h4⟩ := h' F2 H2 rl
  refine ⟨fun d hd => ?_, fun hi => ⟨vs, ws, h1, h3, ?_⟩⟩
  · obtain ⟨x, y, hx, hy, rfl⟩ := zipD_at hd
    obtain ⟨v, hv, rv⟩ := h2.get hx
    obtain ⟨w, hw, rw'⟩ := h4.get hy
    refine ⟨⟨vs, ws, v, w, h1, h3, hv, hw⟩, fun x H3 ⟨t, y1, y2, e1, e2, e3, e4, e5⟩ => ?_⟩
    subst e1 e3
    have e := e4 vs h1
    rw [hv] at e
    cases e
    have e := e5 ws h3
    rw [hw] at e
    cases e
    exact Rp.pair s e2 rv rw'
  · rw [zipD_length] at hi
    rw [h2.length, h4.length]
    omega
theorem it_R {a b : Int} : ItD own K p T (Itr a (b - a).toNat) (rgD a b) F H := by
  intro F2 H2 st rl s i
  have hl : (rgD a b).length = (b - a).toNat := by unfold rgD; rw [List.length_map, List.length_range]
  refine ⟨fun d hd => ?_, fun hi => by show (b - a).toNat ≤ i; rw [hi, hl]; exact Nat.le_refl _⟩
  have hi : i < (rgD a b).length := (List.getElem?_eq_some_iff.mp hd).1
  have e : d = .int (a + (i : Nat)) := by
    unfold rgD at hd
    rw [List.getElem?_map, List.getElem?_range (by rw [← hl]; exact hi)] at hd
    exact (Option.some.inj hd).symm
  subst e
  refine ⟨by show i < (b - a).toNat; rw [← hl]; exact hi, fun x H3 ⟨e1, e2⟩ => ?_⟩
  subst e1 e2
  exact ⟨F2, Ext.refl, s, .int _⟩
end
end PyD
namespace PyD
open PySem PySem.Spec PyProof.Rows L2
def rdI (Z : Zx) (W : WX) (K : PySem.W.Frag) (mg : Str → Option Value) (x : It) : TI := fun σ H R => ∃ Fz ρ st, Sit Z.T Z.p Fz H st ∧ ER ⟨K, Z.p, Z.L⟩ Fz H σ ρ ∧
  Out Z W K mg σ Fz H (evI Z.G x ρ st) fun r st' F1 H1 => ∀ J, ItD r.2 K Z.p Z.T J r.1 F1 H1 → r.1.length ≤ sizeLine → R J H1
/-- range(a, b) -/
def rdR (Z : Zx) (W : WX) (K : PySem.W.Frag) (mg : Str → Option Value) (xa xb : Ox) : L2.St → Hp → (Int → Int → Hp → Prop) → Prop := fun σ H R => ∃ Fz ρ st, Sit Z.T Z.p Fz H st ∧ ER ⟨K, Z.p, Z.L⟩ Fz H σ ρ ∧
  Out Z W K mg σ Fz H ((evO Z.G xa ρ st).bind fun x st => (evO Z.G xb ρ st).bind fun y st => rgR x y st) fun r st' F1 H1 => R r.1 r.2 H1
section
variable {Z : Zx} {W : WX} {X : Cx} {lv : Nat} {a b c e : Expr} {xa xb xc : Ex} {pos p1 p2 p3 : Pos} {pins : List (Addr × Obj)} {s : Shared} {σ : L2.St} {H H0 : Hp} {Fz : Addr → Prop} {ρ : List Sl} {st : Pot}
theorem rgOk_of {m n : Int} (h : rgOk m n = true) : -(2 ^ 40) ≤ m ∧ m ≤ 2 ^ 40 ∧ -(2 ^ 40) ≤ n ∧ n ≤ 2 ^ 40 ∧ n - m ≤ 16000000 := by
  unfold rgOk at h
  simp only [Bool.and_eq_true, decide_eq_true_eq] at h
  obtain ⟨⟨⟨⟨h1, h2⟩, h3⟩, h4⟩, h5⟩ := h
  exact ⟨h1, h2, h3, h4, h5⟩
theorem rgR_ok {x y : Option PyData} {st1 : Pot} {q : (Int × Int) → Pot → (Addr → Prop) → Hp → Prop} {K : PySem.W.Frag} {mg : Str → Option Value} (h : Out Z W K mg σ Fz H (rgR x y st1) q) : ∃ m n, rgOk m n = true ∧ rgR x y st1 = .ok (m, n) st1 ∧ (x = none ∧ m = 0 ∨ x = some (.int m)) ∧ y = some (.int n) := by
  unfold rgR at h ⊢
  split at h
  · rename_i n
    split at h
    · rename_i hc
      exact ⟨0, n, hc, by rw [if_pos hc], .inl ⟨rfl, rfl⟩, rfl⟩
    · exact h.elim
  · rename_i m n
    split at h
    · rename_i hc
      exact ⟨m, n, hc, by rw [if_pos hc], .inr rfl, rfl⟩
    · exact h.elim
  · exact h.elim
theorem rg_1 (g : Good Z W X lv) (hg : Blt X "range" (.type "range")) (hb : PE X b (rdE Z W X.K X.mg xb)) (na : starEach [b] X.env = (false, eval b X.env) :: starEach [] X.env) : PRg X (.Call (.Name "range" p1) [b] [] pos) (rdR Z W X.K X.mg .no (.so xb)) := by
  intro pins s σ H Q I ⟨Fz, ρ, st, S, E, h⟩
  simp only [evO, Res.bind] at h
  refine Call_ (ld_B hg I (PyProof.Rows.callWith_type1 ?_ na rfl))
  have h : Out Z W X.K X.mg σ Fz H ((ev Z.G xb ρ st).bindD fun x st => ((match x with | .int i => (.ok (some (.int i)) st : Res (Option PyData)) | _ => .bad).bind fun y st => rgR none y st)) fun r st' F1 H1 => Q r.1 r.2 H1 := by
    cases hh : ev Z.G xb ρ st with
    | ok v st1 =>
      rw [hh] at h
      obtain ⟨v, k⟩ := v
      cases v with
      | d d => exact h
      | pot => exact h
      | lam m => exact h
      | lams m => exact h
    | exc c x st1 => rw [hh] at h; exact h
    | bad => rw [hh] at h; exact h
  rw [na]
  show wpAny _ _ (spliced ((false, eval b X.env) :: backTo pos (starEach [] X.env))) _ _ s
  refine Calls.spliced_cons (seqD hb I S E h fun v s1 w1 d1 k1 st1 Fz1 H1 I1 r1 e1 S1 E1 v1 h1 => Calls.spliced_nil ?_)
  cases d1 with
  | int i =>
    have h1 : Out Z W X.K X.mg σ Fz1 H1 (rgR none (some (.int i)) st1) _ := h1
    obtain ⟨m, n, ok, er, e2, e3⟩ := rgR_ok h1
    rcases e2 with ⟨_, rfl⟩ | e2
    · cases e3
      rw [er] at h1
      rw [v1.int] at r1
      obtain ⟨t, rfl⟩ := r1
      exact call_range_1 ⟨_, 0, i, _, _, _, H1, rfl, IsRange.new _ _ _ _ _ _ _, I1.kept fun b u e => Heap.get?_push_of_some _ e, h1 Fz1 H1 Ext.refl S1⟩
    · cases e2
  | none => exact h1.elim
  | bool b => exact h1.elim
  | str b => exact h1.elim
  | list b => exact h1.elim
  | tuple b => exact h1.elim
  | dict b => exact h1.elim
theorem so_bind {β : Type} {x : Ex} {f : Option PyData → Pot → Res β} {G : GT} : ((evO G (.so x) ρ st).bind f) = (ev G x ρ st).bindD fun x st => (match x with | .int i => (.ok (some (.int i)) st : Res (Option PyData)) | _ => .bad).bind f := by
  simp only [evO]
  cases hh : ev G x ρ st with
  | ok v st1 =>
    obtain ⟨v, k⟩ := v
    cases v with
    | d d => rfl
    | pot => rfl
    | lam m => rfl
    | lams m => rfl
  | exc c x st1 => rfl
  | bad => rfl
theorem rg_2 (g : Good Z W X lv) (hg : Blt X "range" (.type "range")) (ha : PE X a (rdE Z W X.K X.mg xa)) (hb : PE X b (rdE Z W X.K X.mg xb)) (na : starEach [a, b] X.env = (false, eval a X.env) :: starEach [b] X.env) (nb : starEach [b] X.env = (false, eval b X.env) :: starEach [] X.env) :
    PRg X (.Call (.Name "range" p1) [a, b] [] pos) (rdR Z W X.K X.mg (.so xa) (.so xb)) := by
  intro pins s σ H Q I ⟨Fz, ρ, st, S, E, h⟩
  rw [so_bind] at h
  refine Call_ (ld_B hg I (PyProof.Rows.callWith_type1 ?_ na (by rw [nb]; rfl)))
  rw [na]
  show wpAny _ _ (spliced ((false, eval a X.env) :: backTo pos (starEach [b] X.env))) _ _ s
  refine Calls.spliced_cons (seqD ha I S E h fun v s1 w1 d1 k1 st1 Fz1 H1 I1 r1 e1 S1 E1 v1 h1 => ?_)
  rw [nb]
  cases d1 with
  | int i =>
    have h1 : Out Z W X.K X.mg σ Fz1 H1 ((evO Z.G (.so xb) ρ st1).bind fun y st => rgR (some (.int i)) y st) _ := h1
    rw [so_bind] at h1
    show wpAny _ _ (spliced ((false, eval b X.env) :: backTo pos (starEach [] X.env))) _ _ s1
    refine Calls.spliced_cons (seqD hb I1 S1 E1 h1 fun u s2 w2 d2 k2 st2 Fz2 H2 I2 r2 e2 S2 E2 v2 h2 => Calls.spliced_nil ?_)
    cases d2 with
    | int j =>
      have h2 : Out Z W X.K X.mg σ Fz2 H2 (rgR (some (.int i)) (some (.int j)) st2) _ := h2
      obtain ⟨m, n, ok, er, e2', e3⟩ := rgR_ok h2
      rcases e2' with ⟨e2', _⟩ | e2'
      · cases e2'
      · cases e3
        cases e2'
        rw [er] at h2
        rw [v1.int] at r1
        rw [v2.int] at r2
        obtain ⟨t, rfl⟩ := r1
        obtain ⟨t', rfl⟩ := r2
        exact call_range_2 ⟨_, i, j, _, _, _, H2, rfl, IsRange.new _ _ _ _ _ _ _, I2.kept fun b u e => Heap.get?_push_of_some _ e, h2 Fz2 H2 Ext.refl S2⟩
    | none => exact h2.elim
    | bool b => exact h2.elim
    | str b => exact h2.elim
    | list b => exact h2.elim
    | tuple b => exact h2.elim
    | dict b => exact h2.elim
  | none => exact h1.elim
  | bool b => exact h1.elim
  | str b => exact h1.elim
  | list b => exact h1.elim
  | tuple b => exact h1.elim
  | dict b => exact h1.elim
theorem evR_ok {oa ob : Ox} {q : (Int × Int) → Pot → (Addr → Prop) → Hp → Prop} {K : PySem.W.Frag} {mg : Str → Option Value} (h : Out Z W K mg σ Fz H ((evO Z.G oa ρ st).bind fun x st => (evO Z.G ob ρ st).bind fun y st => rgR x y st) q) :
    Out Z W K mg σ Fz H ((evO Z.G oa ρ st).bind fun x st => (evO Z.G ob ρ st).bind fun y st => rgR x y st) fun r st' F1 H1 => rgOk r.1 r.2 = true ∧ q r st' F1 H1 := by
  cases h1 : evO Z.G oa ρ st with
  | ok x st1 =>
    rw [h1] at h
    have h : Out Z W K mg σ Fz H ((evO Z.G ob ρ st1).bind fun y st => rgR x y st) q := h
    show Out Z W K mg σ Fz H ((evO Z.G ob ρ st1).bind fun y st => rgR x y st) _
    cases h2 : evO Z.G ob ρ st1 with
    | ok y st2 =>
      rw [h2] at h
      have h : Out Z W K mg σ Fz H (rgR x y st2) q := h
      show Out Z W K mg σ Fz H (rgR x y st2) _
      obtain ⟨m, n, ok, er, _⟩ := rgR_ok h
      rw [er] at h ⊢
      exact fun F1 H1 e s => ⟨ok, h F1 H1 e s⟩
    | exc c x st2 => rw [h2] at h; exact h
    | bad => rw [h2] at h; exact h
  | exc c x st2 => rw [h1] at h; exact h
  | bad => rw [h1] at h; exact h
/-- a range walked -/
theorem i_rng {tg : Expr} {oa ob : Ox} (hg : Blt X "range" (.type "range")) (he : PRg X e (rdR Z W X.K X.mg oa ob)) : PI X tg e (rdI Z W X.K X.mg (.rng oa ob)) := by
  refine ⟨fun pins s σ H R I ⟨Fz, ρ, st, S, E, h⟩ => ?_⟩
  simp only [evI] at h
  have h' : Out Z W X.K X.mg σ Fz H (((evO Z.G oa ρ st).bind fun x st => (evO Z.G ob ρ st).bind fun y st => rgR x y st).bind fun r st => (.ok (rgD r.1 r.2, false) st : Res (List PyData × Bool))) fun r st' F1 H1 => ∀ J, ItD r.2 X.K Z.p Z.T J r.1 F1 H1 → r.1.length ≤ sizeLine → R J H1 := by
    cases h1 : evO Z.G oa ρ st with
    | ok x st1 =>
      rw [h1] at h
      show Out Z W X.K X.mg σ Fz H (((evO Z.G ob ρ st1).bind fun y st => rgR x y st).bind _) _
      have h : Out Z W X.K X.mg σ Fz H ((evO Z.G ob ρ st1).bind fun y st => (rgR x y st).bind _) _ := h
      cases h2 : evO Z.G ob ρ st1 with
      | ok y st2 => rw [h2] at h; exact h
      | exc c x st2 => rw [h2] at h; exact h
      | bad => rw [h2] at h; exact h
    | exc c x st2 => rw [h1] at h; exact h
    | bad => rw [h1] at h; exact h
  refine thn (he pins s σ H (fun m n H1 => ∃ st' F1, rgOk m n = true ∧ Sit Z.T Z.p F1 H1 st' ∧ Out Z W X.K X.mg σ F1 H1 (.ok (rgD m n, false) st' : Res (List PyData × Bool)) fun r st' F1 H1 => ∀ J, ItD r.2 X.K Z.p Z.T J r.1 F1 H1 → r.1.length ≤ sizeLine → R J H1) I
    ⟨Fz, ρ, st, S, E, Out.mono (evR_ok (Out.bind h')) fun r st' F1 H1 _ ⟨ok, e1, s1, o⟩ => ⟨st', F1, ok, s1, o⟩⟩) fun u s1 ⟨r, i, j, t, t', v, H1, eu, hr, I1, st1, F1, ok, S1, o⟩ => ?_
  subst eu
  obtain ⟨b1, b2, b3, b4, b5⟩ := rgOk_of ok
  refine wpAny_pyIter_range hr (small_one (by omega) (by omega) (by omega) (by omega)) ?_
  refine ⟨s1.heap.objs.size, [s1.heap.objs.size], _, _, H1, rfl, I1.kept (t' := s1.toks) fun b o e => Heap.get?_push_of_some _ e, turn_range _ i (j - i).toNat, ?_, fun b hb => ?_, o F1 H1 Ext.refl S1 _ it_R (by show (rgD i j).length ≤ sizeLine; unfold rgD; rw [List.length_map, List.length_range, sizeLine_eq]; omega)⟩
  · have e1 : i + ((0 : Nat) : Int) * 1 = i := by simp
    have e2 : (((j - i).toNat : Nat) : Int) - ((0 : Nat) : Int) = Builtin.Range.rangeSize i j 1 := by rw [rangeSize_one]; split <;> omega
    show IsRangeIter _ _ (i + ((0 : Nat) : Int) * 1) ((((j - i).toNat : Nat) : Int) - ((0 : Nat) : Int)) 1
    rw [e1, e2]
    exact Heap.get?_push_size _ rfl
  · have e : b = s1.heap.objs.size := by simpa using hb
    subst e
    exact I1.fpOk (Nat.le_refl _) (I1.hok.fresh (Nat.le_refl _))
theorem Rps.rgV {K : PySem.W.Frag} {F : Addr → Prop} {H : Hp} {m n : Int} : Rps K F H (rgV m n) (rgD m n) := by
  unfold L2.rgV rgD
  induction List.range (n - m).toNat with
  | nil => exact .nil
  | cons x r ih => exact .cons (.int _) ih
/-- list(range(..)), tuple(range(..)) -/
theorem k_lrg {t : Bool} {oa ob : Ox} {x : Str} (g : Good Z W X lv) (hx : Blt X x (.type (if t then "tuple" else "list"))) (he : PRg X e (rdR Z W X.K X.mg oa ob)) (na : starEach [e] X.env = (false, eval e X.env) :: starEach [] X.env) :
    PE X (.Call (.Name x p1) [e] [] pos) (rdE Z W X.K X.mg (.lrg t oa ob)) := by
  refine ⟨fun pins s σ H Q I ⟨Fz, ρ, st, S, E, h⟩ => ?_⟩
  simp only [ev] at h
  have h' : Out Z W X.K X.mg σ Fz H (((evO Z.G oa ρ st).bind fun x st => (evO Z.G ob ρ st).bind fun y st => rgR x y st).bind fun r st => okK (some (if t then .tuple (rgD r.1 r.2) else .list (rgD r.1 r.2))) st) fun a st' Fz' H' => ∀ w, VT (rc Z X) H Fz' H' σ ρ w a.1 a.2 → Q w H' := by
    cases h1 : evO Z.G oa ρ st with
    | ok x st1 =>
      rw [h1] at h
      show Out Z W X.K X.mg σ Fz H (((evO Z.G ob ρ st1).bind fun y st => rgR x y st).bind _) _
      have h : Out Z W X.K X.mg σ Fz H ((evO Z.G ob ρ st1).bind fun y st => (rgR x y st).bind _) _ := h
      cases h2 : evO Z.G ob ρ st1 with
      | ok y st2 => rw [h2] at h; exact h
      | exc c x st2 => rw [h2] at h; exact h
      | bad => rw [h2] at h; exact h
    | exc c x st2 => rw [h1] at h; exact h
    | bad => rw [h1] at h; exact h
  have key : wpAny (model X.prog X.w) X.A (eval e X.env) (fun u s1 => ∃ r i j t1 t2 t3 H1, u = .ref r ∧ IsRange s1.heap r i j 1 t1 t2 t3 ∧ Inv X pins σ H1 s1 ∧ ∃ st' F1, rgOk i j = true ∧ Ext Z.p Fz H F1 H1 ∧ Sit Z.T Z.p F1 H1 st' ∧ Out Z W X.K X.mg σ F1 H1 (okK (some (if t then .tuple (rgD i j) else .list (rgD i j))) st') fun a st' Fz' H' => ∀ w, VT (rc Z X) H Fz' H' σ ρ w a.1 a.2 → Q w H') X.xe s := by
    refine thn (he pins s σ H (fun m n H1 => ∃ st' F1, rgOk m n = true ∧ Ext Z.p Fz H F1 H1 ∧ Sit Z.T Z.p F1 H1 st' ∧ Out Z W X.K X.mg σ F1 H1 (okK (some (if t then .tuple (rgD m n) else .list (rgD m n))) st') fun a st' Fz' H' => ∀ w, VT (rc Z X) H Fz' H' σ ρ w a.1 a.2 → Q w H') I
      ⟨Fz, ρ, st, S, E, Out.mono (evR_ok (Out.bind h')) fun r st' F1 H1 _ ⟨ok, e1, s1, o⟩ => ⟨st', F1, ok, e1, s1, o⟩⟩) fun u s1 z => z
  refine Call_ (ld_B hx I (PyProof.Rows.callWith_type1 ?_ na rfl))
  rw [na]
  show wpAny _ _ (spliced ((false, eval e X.env) :: backTo pos (starEach [] X.env))) _ _ s
  refine Calls.spliced_cons (thn key fun u s1 ⟨r, i, j, t1, t2, t3, H1, eu, hr, I1, st1, F1, ok, e1, S1, o⟩ => Calls.spliced_nil ?_)
  subst eu
  obtain ⟨b1, b2, b3, b4, b5⟩ := rgOk_of ok
  have o := Out.doneK o e1.fresh
  obtain ⟨z, hz, q⟩ := o
  have hz := (Option.some.inj hz).symm
  subst hz
  cases t with
  | false =>
    refine call_list_range (n := (j - i).toNat) (I1.ok.hd g.calm) hr (small_one (by omega) (by omega) (by omega) (by omega)) (rangeSize_nat i j) (by omega) fun h' tk acc c' hk e' hi => ?_
    refine ⟨.ref s1.heap.objs.size, upd H1 s1.heap.objs.size (.lst (L2.rgV i j)), I1.laid hk (Nat.le_refl _) (show ObjOk X.prog X.w _ _ _ (.lst (L2.rgV i j)) from ⟨?_, acc.toList, c', vals_rg hi, ?_⟩), rfl, q.lst S1 (I1.hok.fresh (Nat.le_refl _)) Rps.rgV⟩
    · rw [rgV_length, sizeLine_eq]; omega
    · rw [Array.toArray_toList]; exact e'
  | true =>
    refine call_tuple_range (n := (j - i).toNat) (I1.ok.hd g.calm) hr (small_one (by omega) (by omega) (by omega) (by omega)) (rangeSize_nat i j) (by omega) fun h' tk acc hk hi => ?_
    have I2 : Inv X pins σ H1 { s1 with heap := h', toks := tk } := I1.kept hk
    refine ⟨.ref h'.objs.size, upd H1 h'.objs.size (.tup (L2.rgV i j)), I2.laid (t' := tk) (fun c o e => Heap.get?_push_of_some _ e) (Nat.le_refl _) (show ObjOk X.prog X.w _ _ _ (.tup (L2.rgV i j)) from ⟨?_, acc.toList, vals_rg hi, ?_⟩), rfl, q.tup S1 (I2.hok.fresh (Nat.le_refl _)) Rps.rgV⟩
    · rw [rgV_length, sizeLine_eq]; omega
    · rw [Array.toArray_toList]; exact IsTup.new _ _
end
end PyD
namespace PyD
open PySem PySem.Spec PyProof.Rows L2
section
variable {Z : Zx} {W : WX} {X : Cx} {lv : Nat} {a b c e : Expr} {xa xb xc : Ex} {pos p1 p2 p3 : Pos} {pins : List (Addr × Obj)} {s : Shared} {σ : L2.St} {H H0 : Hp} {Fz : Addr → Prop} {ρ : List Sl} {st : Pot}
theorem seqR_ok {v : Val × Kd} {q : (List PyData × Bool) → Pot → (Addr → Prop) → Hp → Prop} {K : PySem.W.Frag} {mg : Str → Option Value} {β : Type} {f : (List PyData × Bool) → Pot → Res β} {q : β → Pot → (Addr → Prop) → Hp → Prop} (h : Out Z W K mg σ Fz H ((seqR v st).bind f) q) :
    ∃ x ds, v.1 = .d x ∧ seqOf x = some ds ∧ seqR v st = .ok (ds, v.2 == .ow) st ∧ Out Z W K mg σ Fz H (f (ds, v.2 == .ow) st) q := by
  obtain ⟨v, k⟩ := v
  cases v with
  | d x =>
    unfold seqR at h ⊢
    simp only at h ⊢
    cases hs : seqOf x with
    | none => rw [hs] at h; exact h.elim
    | some ds =>
      rw [hs] at h
      exact ⟨x, ds, rfl, hs, by simp only [hs], h⟩
  | pot => exact h.elim
  | lam m => exact h.elim
  | lams m => exact h.elim
theorem bind_ok {α : Type} (r : Res α) : r.bind (fun a st => .ok a st) = r := by cases r <;> rfl
/-- a value of two kinds is walked -/
theorem i_seq {tg : Expr} (g : Good Z W X lv) (ha : PE X a (rdE Z W X.K X.mg xa)) : PI X tg a (rdI Z W X.K X.mg (.seq xa)) := by
  refine ⟨fun pins s σ H R I ⟨Fz, ρ, st, S, E, h⟩ => ?_⟩
  simp only [evI] at h
  refine seqE ha I S E h fun u s1 w a1 st1 Fz1 H1 I1 r1 e1 S1 E1 v1 er h1 => ?_
  rw [er] at h
  have h : Out Z W X.K X.mg σ Fz H (seqR a1 st1) _ := h
  rw [← bind_ok (seqR a1 st1)] at h1
  obtain ⟨x, ds, hx, hs, hr, _⟩ := seqR_ok (q := fun _ _ _ _ => True) h1
  rw [hr] at h
  obtain ⟨v', k'⟩ := a1
  subst hx
  obtain ⟨F2, f2, kq, a', vs, ew, stay⟩ := VT.stay S1 E1 v1 hs
  subst ew
  cases r1
  have e2 := f2.ext e1
  obtain ⟨q1, ql⟩ := stay F2 H1 RelF.refl
  obtain ⟨its, rv, p, hz, al⟩ := sqX_of I1 q1
  have q := h F2 H1 e2 f2.sit (ItS kq X.K a') (it_S stay) (by show ds.length ≤ sizeLine; rw [← ql.length]; exact hz)
  refine (begins_src kq a' its.toArray).iter _ _ _ _ s1 _ p ?_
  refine ⟨s1.heap.objs.size, [s1.heap.objs.size], _, _, H1, rfl, I1.kept (t' := s1.toks) fun b o e => Heap.get?_push_of_some _ e, turn_S kq a' _, src_start (Heap.get?_push_size _ (begins_src kq a' its.toArray).free), fun b hb => ?_, q⟩
  have e : b = s1.heap.objs.size := by simpa using hb
  subst e
  exact I1.fpOk (Nat.le_refl _) (I1.hok.fresh (Nat.le_refl _))
/-- enumerate(x) -/
theorem i_enum {elts : List Expr} {kk : Nat} {tpos : Pos} (g : Good Z W X lv) (hg : Blt X "enumerate" (.type "enumerate")) (ha : PE X a (rdE Z W X.K X.mg xa)) (na : starEach [a] X.env = (false, eval a X.env) :: starEach [] X.env) : PI X (.Tuple elts kk tpos) (.Call (.Name "enumerate" p1) [a] [] pos) (rdI Z W X.K X.mg (.enum xa)) := by
  refine ⟨fun pins s σ H R I ⟨Fz, ρ, st, S, E, h⟩ => ?_⟩
  simp only [evI] at h
  refine Call_ (ld_B hg I (PyProof.Rows.callWith_type1 ?_ na rfl))
  rw [na]
  show wpAny _ _ (spliced ((false, eval a X.env) :: backTo pos (starEach [] X.env))) _ _ s
  refine Calls.spliced_cons (seqE ha I S E h fun u s1 w a1 st1 Fz1 H1 I1 r1 e1 S1 E1 v1 er h1 => Calls.spliced_nil ?_)
  rw [er] at h
  have h : Out Z W X.K X.mg σ Fz H ((seqR a1 st1).bind fun x st => (.ok (enumD 0 x.1, x.2) st : Res (List PyData × Bool))) _ := h
  obtain ⟨x, ds, hx, hs, hr, _⟩ := seqR_ok (q := fun _ _ _ _ => True) h1
  rw [hr] at h
  obtain ⟨v', k'⟩ := a1
  subst hx
  obtain ⟨F2, f2, kq, a', vs, ew, stay⟩ := VT.stay S1 E1 v1 hs
  subst ew
  cases r1
  have e2 := f2.ext e1
  obtain ⟨q1, ql⟩ := stay F2 H1 RelF.refl
  obtain ⟨its, rv, p, hz, al⟩ := sqX_of I1 q1
  have q := h F2 H1 e2 f2.sit (ItE kq X.K a') (it_E stay) (by show (enumD 0 ds).length ≤ sizeLine; rw [enumD_length, ← ql.length]; exact hz)
  refine enum_begins1 (begins_src kq a' its.toArray) p fun h' he hit hsz hk => wpAny_pyIter_enum he ?_
  have I2 : Inv X pins σ H1 { s1 with heap := h' } := I1.kept (t' := s1.toks) hk
  refine ⟨s1.heap.objs.size + 1, [s1.heap.objs.size + 1, s1.heap.objs.size], _, _, H1, rfl, I2, turn_E kq a' (s1.heap.objs.size + 1) s1.heap.objs.size (Nat.ne_of_gt (Nat.lt_succ_of_lt al)) (Nat.ne_of_gt al), ⟨⟨.none, he⟩, src_start hit, Nat.succ_ne_self _⟩, fun b hb => ?_, q⟩
  have e' : b = s1.heap.objs.size + 1 ∨ b = s1.heap.objs.size := by simpa using hb
  have hle : s1.heap.objs.size ≤ b := by
    rcases e' with z | z
    · rw [z]; exact Nat.le_add_right _ _
    · rw [z]; exact Nat.le_refl _
  exact I1.fpOk hle (I1.hok.fresh hle)
theorem Frozen.union {T : Tb} {p : Option Addr} {F1 F2 : Addr → Prop} {H1 : Hp} (b : ∀ a, H1 a = none → H0 a = none) (f1 : Frozen T p H0 Fz H st F1) (f2 : Frozen T p H1 Fz H st F2) : Frozen T p H0 Fz H st (fun a => F1 a ∨ F2 a) :=
  ⟨fun a z => .inl (f1.sub a z), fun a z => z.elim (f1.new a) (fun z => (f2.new a z).imp id (b a)), ⟨fun q e => ⟨(f1.sit.pot q e).1, fun z => z.elim (f1.sit.pot q e).2 (f2.sit.pot q e).2⟩, fun a z => z.elim (f1.sit.fz a) (f2.sit.fz a), f1.sit.tabs, f1.sit.ent, f1.sit.pres, fun a z => .inl (f1.sit.fe a z)⟩⟩
/-- zip(x, y) -/
theorem i_zip {elts : List Expr} {kk : Nat} {tpos : Pos} (g : Good Z W X lv) (hg : Blt X "zip" (.type "zip")) (ha : PE X a (rdE Z W X.K X.mg xa)) (hb : PE X b (rdE Z W X.K X.mg xb)) (na : starEach [a, b] X.env = (false, eval a X.env) :: starEach [b] X.env) (nb : starEach [b] X.env = (false, eval b X.env) :: starEach [] X.env) :
    PI X (.Tuple elts kk tpos) (.Call (.Name "zip" p1) [a, b] [] pos) (rdI Z W X.K X.mg (.zip xa xb)) := by
  refine ⟨fun pins s σ H R I ⟨Fz, ρ, st, S, E, h⟩ => ?_⟩
  simp only [evI] at h
  refine Call_ (ld_B hg I (PyProof.Rows.callWith_type1 ?_ na (by rw [nb]; rfl)))
  rw [na]
  show wpAny _ _ (spliced ((false, eval a X.env) :: backTo pos (starEach [b] X.env))) _ _ s
  refine Calls.spliced_cons (seqE ha I S E h fun u s1 w a1 st1 Fz1 H1 I1 r1 e1 S1 E1 v1 er h1 => ?_)
  rw [nb]
  show wpAny _ _ (spliced ((false, eval b X.env) :: backTo pos (starEach [] X.env))) _ _ s1
  refine Calls.spliced_cons (seqE hb I1 S1 E1 h1 fun u2 s2 w2 a2 st2 Fz2 H2 I2 r2 e2 S2 E2 v2 er2 h2 => Calls.spliced_nil ?_)
  rw [er] at h
  have h : Out Z W X.K X.mg σ Fz H ((ev Z.G xb ρ st1).bind fun y st => (seqR a1 st).bind fun x st => (seqR y st).bind fun y st => (.ok (zipD x.1 y.1, x.2 || y.2) st : Res (List PyData × Bool))) _ := h
  rw [er2] at h
  have h : Out Z W X.K X.mg σ Fz H ((seqR a1 st2).bind fun x st => (seqR a2 st).bind fun y st => (.ok (zipD x.1 y.1, x.2 || y.2) st : Res (List PyData × Bool))) _ := h
  obtain ⟨x, ds, hx, hs, hr, h3⟩ := seqR_ok (q := fun _ _ _ _ => True) h2
  obtain ⟨y, es, hy, hs2, hr2, _⟩ := seqR_ok (q := fun _ _ _ _ => True) h3
  rw [hr] at h
  have h : Out Z W X.K X.mg σ Fz H ((seqR a2 st2).bind fun y st => (.ok (zipD ds y.1, (a1.2 == .ow) || y.2) st : Res (List PyData × Bool))) _ := h
  rw [hr2] at h
  obtain ⟨v', k'⟩ := a1
  obtain ⟨v2', k2'⟩ := a2
  subst hx hy
  obtain ⟨F3, f3, kq, a', vs, ew, stay⟩ := VT.stay S2 E2 (v1.move S1 e2) hs
  obtain ⟨F4, f4, kq2, b', ws, ew2, stay2⟩ := VT.stay S2 E2 v2 hs2
  subst ew ew2
  cases r1
  cases r2
  have f5 := Frozen.union e1.fresh f3 f4
  have e5 := f5.ext (e1.trans e2)
  have stay' := stay.sub (F' := fun a => F3 a ∨ F4 a) (own' := (k' == .ow) || (k2' == .ow)) (fun _ z => .inl z) (fun z => by rw [z]; rfl)
  have stay2' := stay2.sub (F' := fun a => F3 a ∨ F4 a) (own' := (k' == .ow) || (k2' == .ow)) (fun _ z => .inr z) (fun z => by rw [z]; exact Bool.or_true _)
  obtain ⟨q1, ql⟩ := stay' _ H2 RelF.refl
  obtain ⟨q2, _⟩ := stay2' _ H2 RelF.refl
  obtain ⟨its, rv, p, hz, al⟩ := sqX_of I2 q1
  obtain ⟨its2, rv2, p2, hz2, bl⟩ := sqX_of I2 q2
  have q := h _ H2 e5 f5.sit (ItZ kq kq2 X.K a' b') (it_Z stay' stay2') (by show (zipD ds es).length ≤ sizeLine; rw [zipD_length]; exact Nat.le_trans (Nat.min_le_left _ _) (by rw [← ql.length]; exact hz))
  refine zip_begins2 (begins_src kq a' its.toArray) (begins_src kq2 b' its2.toArray) p p2 fun h' hz hTI hTO h1 h2 hsz hk => wpAny_pyIter_zip hz ?_
  have I3 : Inv X pins σ H2 { s2 with heap := h' } := I2.kept (t' := s2.toks) hk
  refine ⟨s2.heap.objs.size + 4, [s2.heap.objs.size + 4, s2.heap.objs.size + 2, s2.heap.objs.size + 3, s2.heap.objs.size, s2.heap.objs.size + 1], _, _, H2, rfl, I3, turn_Z (k1 := kq) (k2 := kq2) (apart_new s2.heap.objs.size a' b' al bl), ⟨hz, hTI, ⟨_, _, hTO⟩, src_start h1, src_start h2⟩, fun c hcm => ?_, q⟩
  have e' : c = s2.heap.objs.size + 4 ∨ c = s2.heap.objs.size + 2 ∨ c = s2.heap.objs.size + 3 ∨ c = s2.heap.objs.size ∨ c = s2.heap.objs.size + 1 := by simpa using hcm
  have hle : s2.heap.objs.size ≤ c := by
    rcases e' with z | z | z | z | z <;> rw [z] <;> first | exact Nat.le_add_right _ _ | exact Nat.le_refl _
  exact I2.fpOk hle (I2.hok.fresh hle)
end
end PyD
namespace PyD
open PySem PySem.Spec PyProof.Rows L2
/-! ### targets -/
def stG : List Nat → List V → L2.St → L2.St
  | i :: is, v :: vs, σ => stG is vs (σ.set i (some v))
  | _, _, σ => σ
def gTg (K : PySem.W.Frag) : Tg → TG
  | .nm i => gName i
  | .tup is => fun v σ H Q => ∃ a xs, v = .ref a ∧ SqT K H a xs ∧ xs.length = is.length ∧ Q (stG is xs σ) H
def Tg.ixs : Tg → List Nat
  | .nm i => [i]
  | .tup is => is
section
variable {X : Cx} {pos : Pos}
theorem gs_nil : PGs X [] (fun vs σ H Q => vs.length = 0 ∧ Q (stG [] vs σ) H) := ⟨fun pins s σ H vs us Q I r ⟨e, h⟩ => by
  cases vs with
  | nil => exact pgs_nil.run pins s σ H [] us Q I r ⟨rfl, h⟩
  | cons v vs => cases e⟩
theorem gs_cons {e : Expr} {es : List Expr} {i : Nat} {is : List Nat} (h1 : PG X e (gName i)) (h2 : PGs X es (fun vs σ H Q => vs.length = is.length ∧ Q (stG is vs σ) H)) (hs : (assignEach (e :: es) X.env).map (·.2) = assign e X.env :: (assignEach es X.env).map (·.2)) :
    PGs X (e :: es) (fun vs σ H Q => vs.length = (i :: is).length ∧ Q (stG (i :: is) vs σ) H) := ⟨fun pins s σ H vs us Q I r ⟨e, h⟩ => by
  cases vs with
  | nil => cases e
  | cons v vs => exact (pgs_cons h1 h2 hs).run pins s σ H (v :: vs) us Q I r ⟨v, vs, rfl, by simpa using e, h⟩⟩
theorem g_tup {es : List Expr} {kk : Nat} {is : List Nat} (hc : X.calm = true) (h : PGs X es (fun vs σ H Q => vs.length = is.length ∧ Q (stG is vs σ) H)) (hn : (assignEach es X.env).length = is.length) (hst : (assignEach es X.env).findIdx? (·.1) = none) : PG X (.Tuple es kk pos) (gTg X.K (.tup is)) := by
  refine ⟨fun pins s σ H v u Q I r ⟨a, xs, e1, q, l, h'⟩ => ?_⟩
  exact (pg_tup hc h hn hst).run pins s σ H v u Q I r ⟨a, xs, e1, q, l, l, h'⟩
end
section
variable {R : Rc} {F : Addr → Prop} {H : Hp} {σ : L2.St} {ρ : List Sl}
theorem ER.set {w : V} {x : Val} (E : ER R F H σ ρ) (r : VR R F H w x) (i : Nat) : ER R F H (σ.set i (some w)) (ρ.set i (.v x)) := by
  have hl := E.len
  have old : ∀ (j : Nat) (ds : List PyData), (ρ.set i (Sl.v x))[j]? = some (Sl.own ds) → i ≠ j ∧ ρ[j]? = some (Sl.own ds) := fun j ds h => by
    by_cases hj : i = j
    · subst hj
      rw [List.getElem?_set] at h
      simp only [if_true] at h
      split at h <;> cases h
    · rw [List.getElem?_set_ne hj] at h
      exact ⟨hj, h⟩
  have oldL : ∀ (j : Nat) (ks : List Nat), (ρ.set i (Sl.v x))[j]? = some (Sl.lamL ks) → i ≠ j ∧ ρ[j]? = some (Sl.lamL ks) := fun j ks h => by
    by_cases hj : i = j
    · subst hj
      rw [List.getElem?_set] at h
      simp only [if_true] at h
      split at h <;> cases h
    · rw [List.getElem?_set_ne hj] at h
      exact ⟨hj, h⟩
  refine ⟨by rw [List.length_set, List.length_set, hl], fun j y h => ?_, fun j ds h => ?_, fun j k ds es a h1 h2 h3 h4 => ?_, fun j ks h => ?_, fun j k ks a h1 h2 h3 h4 => ?_⟩
  · by_cases hj : i = j
    · subst hj
      rw [List.getElem?_set] at h
      simp only [if_true] at h
      split at h
      · rename_i hi
        cases h
        exact ⟨w, by rw [List.getElem?_set]; simp only [if_true]; rw [if_pos (by omega)], r⟩
      · cases h
    · rw [List.getElem?_set_ne hj] at h
      obtain ⟨w', e1, e2⟩ := E.val j y h
      exact ⟨w', by rw [List.getElem?_set_ne hj]; exact e1, e2⟩
  · obtain ⟨hj, h⟩ := old j ds h
    obtain ⟨a, vs, e1, e2⟩ := E.own j ds h
    exact ⟨a, vs, by rw [List.getElem?_set_ne hj]; exact e1, e2⟩
  · obtain ⟨hj, h1⟩ := old j ds h1
    obtain ⟨hk, h2⟩ := old k es h2
    rw [List.getElem?_set_ne hj] at h3
    rw [List.getElem?_set_ne hk] at h4
    exact E.sep j k ds es a h1 h2 h3 h4
  · obtain ⟨hj, h⟩ := oldL j ks h
    obtain ⟨a, vs, e1, e2⟩ := E.lam j ks h
    exact ⟨a, vs, by rw [List.getElem?_set_ne hj]; exact e1, e2⟩
  · obtain ⟨hj, h1⟩ := oldL j ks h1
    rw [List.getElem?_set_ne hj] at h2
    have hk : i ≠ k := by
      rcases h4 with ⟨ds, h4⟩ | ⟨ls, h4⟩
      · exact (old k ds h4).1
      · exact (oldL k ls h4).1
    rw [List.getElem?_set_ne hk] at h3
    refine E.lsep j k ks a h1 h2 h3 ?_
    rcases h4 with ⟨ds, h4⟩ | ⟨ls, h4⟩
    · exact .inl ⟨ds, (old k ds h4).2⟩
    · exact .inr ⟨ls, (oldL k ls h4).2⟩
theorem ER.stG : ∀ {is : List Nat} {vs : List V} {ds : List PyData} {σ : L2.St} {ρ : List Sl}, ER R F H σ ρ → Rps R.K F H vs ds → ER R F H (PyD.stG is vs σ) ((is.zip ds).foldl (fun ρ p => ρ.set p.1 (.v (.d p.2))) ρ)
  | [], _, _, _, _, E, _ => by
    unfold PyD.stG
    exact E
  | i :: is, [], ds, _, _, E, r => by
    cases r
    exact E
  | i :: is, v :: vs, ds, _, _, E, r => by
    cases r with
    | @cons _ _ d _ q r => exact (E.set (x := .d d) q i).stG r
theorem ER.bindT {x : PyData} {w : V} {t : Tg} {ρ1 : List Sl} {Q : L2.St → Hp → Prop} (E : ER R F H σ ρ) (hb : bindT t x ρ = some ρ1) (r : Rp R.K F H w x) (h : ∀ vs σ1, σ1 = PyD.stG t.ixs vs σ → ER R F H σ1 ρ1 → Q σ1 H) : gTg R.K t w σ H Q := by
  cases t with
  | nm i =>
    have e : ρ.set i (.v (.d x)) = ρ1 := Option.some.inj hb
    subst e
    exact h [w] _ rfl (E.set (x := .d x) r i)
  | tup is =>
    unfold PyD.bindT at hb
    simp only at hb
    split at hb
    · rename_i xs
      split at hb
      · rename_i hl
        have e := Option.some.inj hb
        subst e
        cases r with
        | @tup a vs _ q rr =>
          exact ⟨a, vs, rfl, q.elim (fun z => .inl z.1) sqT_nil, by rw [rr.length]; exact hl.symm, h vs _ rfl (E.stG rr)⟩
      · cases hb
    · cases hb
end
/-! ### blocks -/
theorem wipe_at {σ : L2.St} {j : Nat} : ∀ {vs : List Nat}, j ∈ vs → (wipe σ vs)[j]? = if j < σ.length then some none else none
  | v :: vs, h => by
    unfold wipe
    by_cases hv : v = j
    · subst hv
      rw [List.getElem?_set]
      simp only [if_true, wipe_length]
    · rw [List.getElem?_set_ne hv]
      exact wipe_at (by
        rcases List.mem_cons.mp h with e | e
        · exact absurd e.symm hv
        · exact e)
theorem wipe_eq {σ σ' : L2.St} {vs : List Nat} (hl : σ.length = σ'.length) (h : ∀ j, j ∉ vs → σ[j]? = σ'[j]?) : wipe σ vs = wipe σ' vs := by
  apply List.ext_getElem?
  intro j
  by_cases hj : j ∈ vs
  · rw [wipe_at hj, wipe_at hj, hl]
  · rw [wipe_out hj, wipe_out hj, h j hj]
theorem stG_length : ∀ {is : List Nat} {vs : List V} {σ : L2.St}, (stG is vs σ).length = σ.length
  | [], _, _ => by unfold stG; rfl
  | _ :: _, [], _ => rfl
  | i :: is, v :: vs, σ => by
    unfold stG
    rw [stG_length, List.length_set]
theorem stG_out : ∀ {is : List Nat} {vs : List V} {σ : L2.St} {j : Nat}, j ∉ is → (stG is vs σ)[j]? = σ[j]?
  | [], _, _, _, _ => by unfold stG; rfl
  | _ :: _, [], _, _, _ => rfl
  | i :: is, v :: vs, σ, j, h => by
    unfold stG
    rw [stG_out (fun z => h (List.mem_cons_of_mem _ z)), List.getElem?_set_ne (fun e => h (by rw [e]; exact List.mem_cons_self ..))]
theorem wipe_stG {is : List Nat} {vs : List V} {own : List Nat} {σ : L2.St} (h : ∀ i ∈ is, i ∈ own) : wipe (stG is vs (wipe σ own)) own = wipe σ own :=
  wipe_eq (by rw [stG_length, wipe_length]) fun j hj => by rw [stG_out (fun z => hj (h j z)), wipe_out hj]
theorem wipeS_some {ρ : List Sl} {i : Nat} {x : Sl} : ∀ {vs : List Nat}, (wipeS ρ vs)[i]? = some x → x ≠ .un → ρ[i]? = some x ∧ i ∉ vs
  | [], h, _ => ⟨h, by simp⟩
  | v :: vs, h, n => by
    unfold wipeS at h
    by_cases hv : v = i
    · subst hv
      rw [List.getElem?_set] at h
      simp only [if_true] at h
      split at h
      · cases h; exact absurd rfl n
      · cases h
    · rw [List.getElem?_set_ne hv] at h
      obtain ⟨h1, h2⟩ := wipeS_some h n
      exact ⟨h1, by simp only [List.mem_cons, not_or]; exact ⟨fun e => hv e.symm, h2⟩⟩
theorem wipeS_length {ρ : List Sl} : ∀ {vs : List Nat}, (wipeS ρ vs).length = ρ.length
  | [] => rfl
  | v :: vs => by unfold wipeS; rw [List.length_set, wipeS_length]
theorem ER.blk {K : PySem.W.Frag} {p : Option Addr} {L L' : Ls} {F : Addr → Prop} {H : Hp} {σ : L2.St} {ρ : List Sl} (E : ER ⟨K, p, L⟩ F H σ ρ) (own : List Nat) : ER ⟨K, p, L'⟩ F H (wipe σ own) (blkS ρ own) := by
  have back : ∀ {i : Nat} {x : Sl}, (blkS ρ own)[i]? = some x → x ≠ .un → ρ[i]? = some x ∧ i ∉ own ∧ dropF x = x := fun {i x} h n => by
    obtain ⟨h1, h2⟩ := wipeS_some h n
    rw [List.getElem?_map] at h1
    obtain ⟨y, e1, e2⟩ := Option.map_eq_some_iff.mp h1
    have e3 : y = x := by
      cases y with
      | un => exact e2
      | own ds => exact e2
      | lamL ks => exact absurd e2.symm n
      | v z =>
        cases z with
        | lam m => exact absurd e2.symm n
        | lams m => exact absurd e2.symm n
        | d d => exact e2
        | pot => exact e2
    subst e3
    exact ⟨e1, h2, e2⟩
  refine ⟨by unfold blkS; rw [wipe_length, wipeS_length, List.length_map, E.len], fun i x h => ?_, fun i ds h => ?_, fun i j ds es a h1 h2 h3 h4 => ?_, fun i ks h => ?_, fun i j ks a h => ?_⟩
  · obtain ⟨h1, h2, h3⟩ := back h (fun z => by cases z)
    obtain ⟨w, e1, e2⟩ := E.val i x h1
    refine ⟨w, by rw [wipe_out h2]; exact e1, ?_⟩
    cases x with
    | d d => exact e2
    | pot => exact e2
    | lam m => cases h3
    | lams m => cases h3
  · obtain ⟨h1, h2, _⟩ := back h (fun z => by cases z)
    obtain ⟨a, vs, e1, e2⟩ := E.own i ds h1
    exact ⟨a, vs, by rw [wipe_out h2]; exact e1, e2⟩
  · obtain ⟨h1, i1, _⟩ := back h1 (fun z => by cases z)
    obtain ⟨h2, i2, _⟩ := back h2 (fun z => by cases z)
    rw [wipe_out i1] at h3
    rw [wipe_out i2] at h4
    exact E.sep i j ds es a h1 h2 h3 h4
  · obtain ⟨_, _, h3⟩ := back h (fun z => by cases z)
    cases h3
  · obtain ⟨_, _, h3⟩ := back h (fun z => by cases z)
    cases h3
abbrev Zx.blk (Z : Zx) : Zx := { Z with L := ⟨fun _ _ => False, fun _ _ _ _ => False⟩ }
abbrev W0 : WX := fun _ _ _ _ => False
theorem Good.blk {Z : Zx} {W : WX} {X : Cx} {lv : Nat} (g : Good Z W X lv) (s : Shared) (H : Hp) (scope : Scope) (ce : Env) (fp : List Addr) : Good Z.blk W0 (X.blk s H scope ce fp) lv :=
  ⟨g.calm, g.nd, g.room, g.fns, g.consts, g.clss, g.frees, g.bfs, g.subs, LamX.takes0, fun _ _ z => z.elim⟩
def rdOt (Z : Zx) (W : WX) (K : PySem.W.Frag) (mg : Str → Option Value) (x : Ot) : TT := fun σ H Q => ∃ Fz ρ st, Sit Z.T Z.p Fz H st ∧ ER ⟨K, Z.p, Z.L⟩ Fz H σ ρ ∧
  Out Z W K mg σ Fz H (evOt Z.G x ρ st) fun b st' Fz' H' => Q b H'
section
variable {Z : Zx} {W : WX} {X : Cx}
theorem ts_no : PTs X [] (rdOt Z W X.K X.mg .no) := ⟨fun pins s σ H Q I ⟨Fz, ρ, st, S, E, h⟩ => pts_nil.run pins s σ H Q I (h Fz H Ext.refl S)⟩
theorem ts_so {c : Expr} {t : Te} (h : PT X c (rdT Z W X.K X.mg t)) : PTs X [c] (rdOt Z W X.K X.mg (.so t)) := ⟨fun pins s σ H Q I h' => (pts_one h).run pins s σ H Q I h'⟩
end
theorem Out.calm {Z : Zx} {W W' : WX} {K : PySem.W.Frag} {mg : Str → Option Value} {σ σ' : L2.St} {F1 F : Addr → Prop} {H1 H : Hp} {α β : Type} {m : Res α} {f : α → Pot → Res β} {q : β → Pot → (Addr → Prop) → Hp → Prop} (h : Out Z W K mg σ F1 H1 ((noExc m).bind f) q) :
    Out Z.blk W' K mg σ' F H m fun a st F' H' => Ext Z.p F H F' H' ∧ Sit Z.T Z.p F' H' st ∧ Out Z W K mg σ F1 H1 (f a st) q := by
  cases m with
  | ok a st => exact fun F' H' e s => ⟨e, s, h⟩
  | exc c x st => exact h.elim
  | bad => exact h
theorem noExc_bind {α β γ : Type} (m : Res α) (f : α → Pot → Res β) (c : β → Pot → Res γ) : (noExc (m.bind f)).bind c = (noExc m).bind fun a st => (noExc (f a st)).bind c := by
  cases m <;> rfl
/-- a tracked list of one's own is written -/
theorem Sit.write {T : Tb} {p : Option Addr} {F : Addr → Prop} {H : Hp} {st : Pot} {D : Addr} {vs : List V} {o : HO} (s : Sit T p F H st) (hD : H D = some (.lst vs)) (np : p ≠ some D) (nF : ¬ F D) (nT : T.he D = none) : Sit T p F (L2.upd H D o) st := by
  have ne : ∀ {b u}, H b = some u → (∀ ws, u ≠ .lst ws) → b ≠ D := fun {b u} h n e => by
    rw [e, hD] at h
    cases h
    exact n vs rfl
  refine ⟨fun q e => ?_, fun b z => ?_, fun q hq => ?_, fun b u e n t => ?_, fun b u e => ?_, s.fe⟩
  · obtain ⟨h1, h2⟩ := s.pot q e
    exact ⟨by rw [upd_ne (fun z => np (by rw [← z]; exact e))]; exact h1, h2⟩
  · obtain ⟨u, h1, h2⟩ := s.fz b z
    exact ⟨u, by rw [upd_ne (fun e => nF (by rw [← e]; exact z))]; exact h1, h2⟩
  · obtain ⟨ps, h1, h2, h3⟩ := s.tabs q hq
    refine ⟨ps, by rw [upd_ne (ne h1 (fun ws z => by cases z))]; exact h1, h2, fun pos cv hc => ?_⟩
    obtain ⟨c, e1, e2⟩ := h3 pos cv hc
    exact ⟨c, e1, by rw [upd_ne (ne e2 (fun ws z => by unfold LamX.CodeO at z; cases z))]; exact e2⟩
  · rw [upd_ne (fun z => by rw [z, nT] at e; cases e)]
    exact s.ent b u e n t
  · rw [upd_ne (fun z => by rw [z, nT] at e; cases e)]
    exact s.pres b u e
/-- over what was there ahead of it -/
theorem Ext.write {p : Option Addr} {F1 F : Addr → Prop} {H1 H : Hp} {D : Addr} {o : HO} (e : Ext p F1 H1 F H) (hD : H1 D = none) : Ext p F1 H1 F (L2.upd H D o) :=
  ⟨e.fz, fun b u h n t => by rw [upd_ne (ne_of_none h hD)]; exact e.keep b u h n t, e.new, fun b u h => by rw [upd_ne (ne_of_none h hD)]; exact e.there b u h⟩
end PyD
namespace PyD
open PySem PySem.Spec PyProof.Rows L2
theorem Res.assoc {α β γ : Type} (m : Res α) (f : α → Pot → Res β) (c : β → Pot → Res γ) : (m.bind f).bind c = m.bind fun a st => (f a st).bind c := by cases m <;> rfl
theorem Frozen.base {T : Tb} {p : Option Addr} {H0 H1 H : Hp} {F F' : Addr → Prop} {st : Pot} (f : Frozen T p H0 F H st F') (b : ∀ a, H0 a = none → H1 a = none) : Frozen T p H1 F H st F' := ⟨f.sub, fun a z => (f.new a z).imp id (b a), f.sit⟩
section
variable {Z : Zx} {W : WX} {X : Cx} {lv : Nat} {xe : Ex} {xi : It} {xc : Ot} {t : Tg} {own : List (Str × Nat)} {σ : L2.St} {H : Hp}
theorem lc_read {Q : VK} (hix : ∀ i ∈ t.ixs, i ∈ own.map (·.2)) (h : rdE Z W X.K X.mg (.lc t xi xc xe own) σ H Q) :
    tLc (rdI Z W X.K X.mg xi) (gTg X.K t) (rdOt Z.blk W0 X.K X.mg xc) (rdE Z.blk W0 X.K X.mg xe) (own.map (·.2)) σ H Q := by
  obtain ⟨Fz, ρ, st, S, E, h⟩ := h
  simp only [ev] at h
  refine ⟨Fz, ρ, st, S, E, Out.mono (Out.bind h) fun r st1 F1 H1 _ ⟨e1, S1, o⟩ J itd hsz D hD => ?_⟩
  have E1 := E.ext S e1
  generalize hturn : (fun x st => match bindT t x (blkS ρ (own.map (·.2))) with
        | none => .bad
        | some ρ1 => noExc ((evOt Z.G xc ρ1 st).bind fun k st => match k with
          | true => (ev Z.G xe ρ1 st).bind fun v st => match v with
            | (.d d, .cl) => .ok (some d) st
            | (.d d, .fr) => .ok (some d) st
            | _ => .bad
          | false => .ok none st) : PyData → Pot → Res (Option PyData)) = turn at o
  have nT : Z.T.he D = none := by
    cases q : Z.T.he D with
    | none => rfl
    | some u =>
      obtain ⟨u', q'⟩ := S1.pres D u q
      rw [hD] at q'; cases q'
  refine ⟨fun i m H' => m = r.1.length - i ∧ i ≤ r.1.length ∧ ∃ F2 st2 acc vs, Ext Z.p F1 H1 F2 H' ∧ Sit Z.T Z.p F2 H' st2 ∧ H' D = some (.lst vs) ∧ ¬ F2 D ∧ Rps X.K F2 H' vs acc ∧ acc.length ≤ i ∧
    Out Z W X.K X.mg σ F1 H1 ((compGo turn (r.1.drop i) acc st2).bind fun ds st => okK (some (.list ds)) st) fun a st' Fz' H' => ∀ w, VT (rc Z X) H Fz' H' σ ρ w a.1 a.2 → Q w H',
    ⟨r.1.length, by simp, Nat.zero_le _, F1, st1, [], [], Ext.upd hD, S1.upd hD, upd_same, S1.nofz hD, .nil, Nat.le_refl _, by simpa using o⟩, ?_⟩
  rintro i m H2 ⟨rfl, hi, F2, st2, acc, vs, e2, S2, hD2, nF, ra, la, o2⟩
  have itd2 := itd F2 H2 st2 (RelF.ext e2) S2 i
  have np : Z.p ≠ some D := S1.nop hD
  by_cases hlt : i < r.1.length
  · obtain ⟨d, hd⟩ : ∃ d, r.1[i]? = some d := ⟨r.1[i], List.getElem?_eq_getElem hlt⟩
    have hdrop : r.1.drop i = d :: r.1.drop (i + 1) := by
      rw [List.drop_eq_getElem_cons hlt]
      congr 1
      rw [List.getElem?_eq_getElem hlt] at hd
      exact Option.some.inj hd
    rw [hdrop] at o2
    obtain ⟨go, step⟩ := itd2.1 d hd
    refine .inr ⟨go, fun H' => ∃ F3 st3 acc' vs', Ext Z.p F1 H1 F3 H' ∧ Sit Z.T Z.p F3 H' st3 ∧ H' D = some (.lst vs') ∧ ¬ F3 D ∧ Rps X.K F3 H' vs' acc' ∧ acc'.length ≤ i + 1 ∧
      Out Z W X.K X.mg σ F1 H1 ((compGo turn (r.1.drop (i + 1)) acc' st3).bind fun ds st => okK (some (.list ds)) st) fun a st' Fz' H' => ∀ w, VT (rc Z X) H Fz' H' σ ρ w a.1 a.2 → Q w H',
      fun H' nx => ⟨r.1.length - (i + 1), by omega, rfl, hlt, nx⟩, fun x H3 y => ?_⟩
    obtain ⟨F3, e3, S3, rx⟩ := step x H3 y
    have hD3 : H3 D = some (.lst vs) := e3.keep D _ hD2 np (fun ps z => by cases z)
    have nF3 : ¬ F3 D := fun z => (e3.new D z).elim nF fun z => by rw [hD2] at z; cases z
    have o2 : Out Z W X.K X.mg σ F1 H1 (((turn d st2).bind fun y st' => compGo turn (r.1.drop (i + 1)) (match y with | some d => acc ++ [d] | none => acc) st').bind fun ds st => okK (some (.list ds)) st) _ := o2
    rw [Res.assoc] at o2
    have E3 : ER ⟨X.K, Z.p, Z.blk.L⟩ F3 H3 (wipe σ (own.map (·.2))) (blkS ρ (own.map (·.2))) := ((E1.ext S1 e2).ext S2 e3).blk _
    rw [← hturn] at o2
    simp only at o2
    cases hb : bindT t d (blkS ρ (own.map (·.2))) with
    | none => rw [hb] at o2; exact o2.elim
    | some ρ1 =>
      rw [hb] at o2
      simp only at o2
      rw [noExc_bind] at o2
      refine ER.bindT (R := ⟨X.K, Z.p, Z.blk.L⟩) E3 hb rx fun vs' σ1 eσ E4 => ⟨by rw [eσ]; exact wipe_stG hix, ?_⟩
      refine ⟨F3, ρ1, st2, S3, E4, Out.mono (Out.calm o2) fun b st4 F4 H4 _ ⟨e4, S4, o4⟩ => ?_⟩
      have hD4 : H4 D = some (.lst vs) := e4.keep D _ hD3 np (fun ps z => by cases z)
      have nF4 : ¬ F4 D := fun z => (e4.new D z).elim nF3 fun z => by rw [hD3] at z; cases z
      have e24 := e3.trans e4
      cases b with
      | false =>
        simp only [Bool.false_eq_true, if_false]
        have kf := e24.kf S2
        rw [hturn] at o4
        exact ⟨F4, st4, acc, vs, e2.trans e24, S4, hD4, nF4, ra.move e24.fz kf, Nat.le_succ_of_le la, o4⟩
      | true =>
        simp only [if_true]
        simp only at o4
        rw [noExc_bind] at o4
        refine ⟨F4, ρ1, st4, S4, E4.ext S3 e4, Out.mono (Out.calm o4) fun v st5 F5 H5 _ ⟨e5, S5, o5⟩ w vt => ?_⟩
        have hD5 : H5 D = some (.lst vs) := e5.keep D _ hD4 np (fun ps z => by cases z)
        have nF5 : ¬ F5 D := fun z => (e5.new D z).elim nF4 fun z => by rw [hD4] at z; cases z
        have e25 := e24.trans e5
        rw [hturn] at o5
        have fin : ∀ (dd : PyData) (k' : Kd), v = (.d dd, k') → k' ≠ .ow → Out Z W X.K X.mg σ F1 H1 ((compGo turn (r.1.drop (i + 1)) (acc ++ [dd]) st5).bind fun ds st => okK (some (.list ds)) st) (fun a st' Fz' H' => ∀ w, VT (rc Z X) H Fz' H' σ ρ w a.1 a.2 → Q w H') →
            ∃ acc, H5 D = some (.lst acc) ∧ acc.length < sizeLine ∧ ∃ F3 st3 acc' vs', Ext Z.p F1 H1 F3 (upd H5 D (.lst (acc ++ [w]))) ∧ Sit Z.T Z.p F3 (upd H5 D (.lst (acc ++ [w]))) st3 ∧ (upd H5 D (.lst (acc ++ [w]))) D = some (.lst vs') ∧ ¬ F3 D ∧ Rps X.K F3 (upd H5 D (.lst (acc ++ [w]))) vs' acc' ∧ acc'.length ≤ i + 1 ∧
              Out Z W X.K X.mg σ F1 H1 ((compGo turn (r.1.drop (i + 1)) acc' st3).bind fun ds st => okK (some (.list ds)) st) fun a st' Fz' H' => ∀ w, VT (rc Z X) H Fz' H' σ ρ w a.1 a.2 → Q w H' := by
          intro dd k' ev hk o6
          subst ev
          obtain ⟨F6, f6, r6⟩ := vt.clean S5 hk
          have r6 : Rp X.K F6 H5 w dd := r6
          have nF6 : ¬ F6 D := fun z => (f6.new D z).elim nF5 fun z => by rw [hD4] at z; cases z
          have f1 := f6.base (H1 := H1) (e2.trans e24).fresh
          have e6 := (f1.ext (e2.trans e25)).write (o := .lst (vs ++ [w])) hD
          have S6 := f6.sit.write (o := .lst (vs ++ [w])) hD5 np nF6 nT
          have mv : ∀ {a o}, F6 a → H5 a = some o → upd H5 D (.lst (vs ++ [w])) a = some o := fun {a o} z q => by rw [upd_ne (fun e => nF6 (by rw [← e]; exact z))]; exact q
          refine ⟨vs, hD5, by rw [ra.length]; omega, F6, st5, acc ++ [dd], vs ++ [w], e6, S6, upd_same, nF6, (ra.move (fun a z => f6.sub a (e25.fz a z)) fun a o z q => mv (f6.sub a (e25.fz a z)) (e25.kf S2 a o z q)).append (.cons (r6.move (fun _ z => z) fun a o z q => mv z q) .nil), by rw [List.length_append, List.length_singleton]; omega, o6⟩
        obtain ⟨v', k'⟩ := v
        cases v' with
        | d dd =>
          cases k' with
          | cl => exact fin dd .cl rfl (fun z => by cases z) o5
          | fr => exact fin dd .fr rfl (fun z => by cases z) o5
          | ow => exact o5.elim
        | pot => exact o5.elim
        | lam m => exact o5.elim
        | lams m => exact o5.elim
  · have hi' : i = r.1.length := by omega
    rw [hi', List.drop_length] at o2
    refine .inl ⟨itd2.2 hi', ?_⟩
    exact o2 F2 H2 e2 S2 (.ref D) ⟨D, vs, acc, rfl, rfl, hD2, nF, np, e1.fresh D hD, ra⟩
theorem k_lc {elt tg iter : Expr} {ifs : List Expr} {scope : Scope} {pos : Pos} (g : Good Z W X lv) (hi : PI X tg iter (rdI Z W X.K X.mg xi)) (ok : BlkOk X.N X.env.scope scope own) (hix : ∀ i ∈ t.ixs, i ∈ own.map (·.2))
    (hg : ∀ (s : Shared) (H : Hp) (C : Addr) (cl : List (Str × Addr)) (fp : List Addr), PG (X.blk s H scope (compEnvC scope cl C X.env) fp) tg (gTg X.K t))
    (ht : ∀ (s : Shared) (H : Hp) (C : Addr) (cl : List (Str × Addr)) (fp : List Addr), PTs (X.blk s H scope (compEnvC scope cl C X.env) fp) ifs (rdOt Z.blk W0 X.K X.mg xc))
    (he : ∀ (s : Shared) (H : Hp) (C : Addr) (cl : List (Str × Addr)) (fp : List Addr), PE (X.blk s H scope (compEnvC scope cl C X.env) fp) elt (rdE Z.blk W0 X.K X.mg xe)) (hs : ∀ x, foldedSetIterable iter X.env x = pure x) :
    PE X (.ListComp elt [⟨tg, iter, ifs, 0⟩] scope pos) (rdE Z W X.K X.mg (.lc t xi xc xe own)) :=
  ⟨fun pins s σ H Q I h => (pe_lc g.calm g.nd hi ok hg ht he hs).run pins s σ H Q I (lc_read hix h)⟩
end
end PyD
namespace PyD
open PySem PySem.Spec PyProof.Rows L2
/-- the situation of a statement -/
structure StI (Z : Zx) (Fe : Addr → Prop) (K : PySem.W.Frag) (σ : L2.St) (ρ : List Sl) (F : Addr → Prop) (H : Hp) (st : Pot) : Prop where
  sit : Sit Z.T Z.p F H st
  er : ER ⟨K, Z.p, Z.L⟩ F H σ ρ
  own : ∀ (i : Nat) (ds : List PyData) (a : Addr), ρ[i]? = some (Sl.own ds) → σ[i]? = some (some (V.ref a)) → Z.T.he a = none
  fe1 : ∀ a, Fe a → F a
  fe2 : ∀ a, F a → Fe a ∨ Z.T.he a = none
  lamn : ∀ (i : Nat) (ks : List Nat) (a : Addr), ρ[i]? = some (Sl.lamL ks) → σ[i]? = some (some (V.ref a)) → Z.T.he a = none
abbrev RelS (p : Option Addr) (F : Addr → Prop) (H : Hp) (F' : Addr → Prop) (H' : Hp) : Prop := RelF false p F H F' H'
theorem RelF.trans {p : Option Addr} {F F1 F2 : Addr → Prop} {H H1 H2 : Hp} (a : RelS p F H F1 H1) (b : RelS p F1 H1 F2 H2) : RelS p F H F2 H2 :=
  ⟨fun x z => b.1 x (a.1 x z), fun x o z h n t => by
    rcases z with z | z
    · cases z
    · exact b.2 x o (.inr (a.1 x z)) (a.2 x o (.inr z) h n t) n t⟩
theorem fe_step {Z : Zx} {Fe F F' : Addr → Prop} {H H' : Hp} {st : Pot} (s : Sit Z.T Z.p F H st) (e : Ext Z.p F H F' H') (f1 : ∀ a, Fe a → F a) (f2 : ∀ a, F a → Fe a ∨ Z.T.he a = none) : (∀ a, Fe a → F' a) ∧ ∀ a, F' a → Fe a ∨ Z.T.he a = none := by
  refine ⟨fun a z => e.fz a (f1 a z), fun a z => ?_⟩
  rcases e.new a z with z | z
  · exact f2 a z
  · refine .inr ?_
    cases q : Z.T.he a with
    | none => rfl
    | some o =>
      obtain ⟨o', q'⟩ := s.pres a o q
      rw [z] at q'; cases q'
theorem StI.ext {Z : Zx} {Fe : Addr → Prop} {K : PySem.W.Frag} {σ : L2.St} {ρ : List Sl} {F F' : Addr → Prop} {H H' : Hp} {st st' : Pot} (i : StI Z Fe K σ ρ F H st) (e : Ext Z.p F H F' H') (s : Sit Z.T Z.p F' H' st') : StI Z Fe K σ ρ F' H' st' :=
  let f := fe_step i.sit e i.fe1 i.fe2
  ⟨s, i.er.ext i.sit e, i.own, f.1, f.2, i.lamn⟩
def Fin (Z : Zx) (Fe : Addr → Prop) (K : PySem.W.Frag) (F : Addr → Prop) (H : Hp) (ρ : List Sl) (st : Pot) (q : L2.St → Hp → Prop) : Prop := ∀ F' H' σ', RelS Z.p F H F' H' → StI Z Fe K σ' ρ F' H' st → q σ' H'
def OutS (Z : Zx) (Fe : Addr → Prop) (W : WX) (K : PySem.W.Frag) (mg : Str → Option Value) (F : Addr → Prop) (H : Hp) (r : Res Fl) (D : Ends) : Prop := match r with
  | .ok (.nx ρ) st => Fin Z Fe K F H ρ st D.nx
  | .ok (.brk ρ) st => Fin Z Fe K F H ρ st D.bk
  | .ok (.ct ρ) st => Fin Z Fe K F H ρ st D.ct
  | .ok (.ret v) st => ∀ F' H' w, RelS Z.p F H F' H' → Sit Z.T Z.p F' H' st → (∀ a, Fe a → F' a) → (∀ a, F' a → Fe a ∨ Z.T.he a = none) → VR ⟨K, Z.p, Z.L⟩ F' H' w v → D.rt w H'
  | .exc c x st => ∀ F' H' σ' cls dd, RelS Z.p F H F' H' → Sit Z.T Z.p F' H' st → (∀ a, Fe a → F' a) → (∀ a, F' a → Fe a ∨ Z.T.he a = none) → XR K mg Z.G.clss F' H' c x cls dd → W cls dd σ' H'
  | .bad => False
section
variable {Z : Zx} {Fe : Addr → Prop} {W : WX} {K : PySem.W.Frag} {mg : Str → Option Value} {F F1 : Addr → Prop} {H H1 : Hp} {σ : L2.St} {ρ : List Sl} {st : Pot} {D D' : Ends} {α : Type}
theorem Fin.shift {q : L2.St → Hp → Prop} (h : Fin Z Fe K F H ρ st q) (r : RelS Z.p F H F1 H1) : Fin Z Fe K F1 H1 ρ st q := fun F' H' σ' r' i => h F' H' σ' (r.trans r') i
theorem OutS.shift {r : Res Fl} (h : OutS Z Fe W K mg F H r D) (rl : RelS Z.p F H F1 H1) : OutS Z Fe W K mg F1 H1 r D := by
  cases r with
  | ok f st =>
    cases f with
    | nx ρ => exact Fin.shift h rl
    | brk ρ => exact Fin.shift h rl
    | ct ρ => exact Fin.shift h rl
    | ret v => exact fun F' H' w r' s a b v => h F' H' w (rl.trans r') s a b v
  | exc c x st => exact fun F' H' σ' cls dd r' s a b v => h F' H' σ' cls dd (rl.trans r') s a b v
  | bad => exact h
/-- an expression first -/
theorem OutS.bind {r : Res α} {f : α → Pot → Res Fl} (i : StI Z Fe K σ ρ F H st) (h : OutS Z Fe W K mg F H (r.bind f) D) : Out Z W K mg σ F H r fun a st' F1 H1 => Ext Z.p F H F1 H1 ∧ StI Z Fe K σ ρ F1 H1 st' ∧ OutS Z Fe W K mg F1 H1 (f a st') D := by
  cases r with
  | ok a st' => exact fun F1 H1 e s => ⟨e, i.ext e s, OutS.shift h (RelF.ext e)⟩
  | exc c x st' => exact fun F1 H1 cls dd e s x => let f := fe_step i.sit e i.fe1 i.fe2; h F1 H1 σ cls dd (RelF.ext e) s f.1 f.2 x
  | bad => exact h
theorem OutS.seq {r : Res Fl} {f : List Sl → Pot → Res Fl} (h : OutS Z Fe W K mg F H (r.bind fun f' st => match f' with | .nx ρ => f ρ st | g => .ok g st) D) :
    OutS Z Fe W K mg F H r { D with nx := fun σ' H' => ∃ F' ρ' st', StI Z Fe K σ' ρ' F' H' st' ∧ OutS Z Fe W K mg F' H' (f ρ' st') D } := by
  cases r with
  | ok g st =>
    cases g with
    | nx ρ => exact fun F' H' σ' r i => ⟨F', ρ, st, i, OutS.shift h r⟩
    | brk ρ => exact h
    | ct ρ => exact h
    | ret v => exact h
  | exc c x st => exact h
  | bad => exact h
end
def rdS (Z : Zx) (Fe : Addr → Prop) (W : WX) (K : PySem.W.Frag) (mg : Str → Option Value) (x : Sm) : TS := fun D σ H => ∃ F ρ st, StI Z Fe K σ ρ F H st ∧ OutS Z Fe W K mg F H (ex Z.G x ρ st) D
def rdSs (Z : Zx) (Fe : Addr → Prop) (W : WX) (K : PySem.W.Frag) (mg : Str → Option Value) (x : Sms) : TS := fun D σ H => ∃ F ρ st, StI Z Fe K σ ρ F H st ∧ OutS Z Fe W K mg F H (exs Z.G x ρ st) D
section
variable {Z : Zx} {Fe : Addr → Prop} {W : WX} {X : Cx} {lv : Nat} {a b c e : Expr} {xa xb xc : Ex} {pos p1 p2 p3 : Pos} {pins : List (Addr × Obj)} {s : Shared} {σ : L2.St} {H H0 : Hp} {F : Addr → Prop} {ρ : List Sl} {st : Pot}
theorem s_nil : PSs X [] (rdSs Z Fe W X.K X.mg .nil) := ⟨fun pins s σ H D I ⟨F, ρ, st, i, h⟩ => pss_nil.run pins s σ H D I (h F H σ RelF.refl i)⟩
theorem s_cons {s1 : Stmt} {r : List Stmt} {x : Sm} {y : Sms} (h1 : PS X s1 (rdS Z Fe W X.K X.mg x)) (h2 : PSs X r (rdSs Z Fe W X.K X.mg y)) : PSs X (s1 :: r) (rdSs Z Fe W X.K X.mg (.cons x y)) := by
  refine ⟨fun pins s σ H D I ⟨F, ρ, st, i, h⟩ => ?_⟩
  simp only [exs] at h
  exact (pss_cons h1 h2).run pins s σ H D I ⟨F, ρ, st, i, OutS.seq h⟩
/-- a step that is nothing in the program -/
theorem s_frz {r : List Stmt} {i : Nat} {y : Sms} (h2 : PSs X r (rdSs Z Fe W X.K X.mg y)) : PSs X r (rdSs Z Fe W X.K X.mg (.cons (.frz i) y)) := by
  refine ⟨fun pins s σ H D I ⟨F, ρ, st, it, h⟩ => ?_⟩
  simp only [exs, ex] at h
  have h : OutS Z Fe W X.K X.mg F H (exs Z.G y (frzS ρ i) st) D := h
  unfold frzS at h
  split at h
  · rename_i ds hi
    obtain ⟨a, vs, g1, g2, g3, g4, g5⟩ := it.er.own i ds hi
    have S2 : Sit Z.T Z.p (fun b => F b ∨ b = a) H st := ⟨fun q e => by
        obtain ⟨h1, h2⟩ := it.sit.pot q e
        exact ⟨h1, fun z => z.elim h2 fun e' => g4 (by rw [← e']; exact e)⟩, fun b z => by
        rcases z with z | z
        · exact it.sit.fz b z
        · exact ⟨_, by rw [z]; exact g2, fun ps z => by cases z⟩, it.sit.tabs, it.sit.ent, it.sit.pres, fun a z => .inl (it.sit.fe a z)⟩
    have rel : RelS Z.p F H (fun b => F b ∨ b = a) H := ⟨fun b z => .inl z, fun b o _ z _ _ => z⟩
    have hl := it.er.len
    have old : ∀ (j : Nat) (ds' : List PyData), (ρ.set i (Sl.v (.d (.list ds))))[j]? = some (Sl.own ds') → i ≠ j ∧ ρ[j]? = some (Sl.own ds') := fun j ds' h => by
      by_cases hj : i = j
      · subst hj
        rw [List.getElem?_set] at h
        simp only [if_true] at h
        split at h <;> cases h
      · rw [List.getElem?_set_ne hj] at h
        exact ⟨hj, h⟩
    have oldL : ∀ (j : Nat) (ks : List Nat), (ρ.set i (Sl.v (.d (.list ds))))[j]? = some (Sl.lamL ks) → i ≠ j ∧ ρ[j]? = some (Sl.lamL ks) := fun j ks h => by
      by_cases hj : i = j
      · subst hj
        rw [List.getElem?_set] at h
        simp only [if_true] at h
        split at h <;> cases h
      · rw [List.getElem?_set_ne hj] at h
        exact ⟨hj, h⟩
    refine h2.run pins s σ H D I ⟨_, _, st, ⟨S2, ⟨by rw [List.length_set, hl], fun j x hx => ?_, fun j ds' hx => ?_, fun j k ds' es' a' h1 h2 h3 h4 => ?_, fun j ks hx => ?_, fun j k ks a' h1 h2 h3 h4 => ?_⟩, fun j ds' a' hx hσ => ?_, fun b z => .inl (it.fe1 b z), fun b z => ?_, fun j ks a' hx hσ => it.lamn j ks a' (oldL j ks hx).2 hσ⟩, OutS.shift h rel⟩
    · by_cases hj : i = j
      · subst hj
        rw [List.getElem?_set] at hx
        simp only [if_true] at hx
        split at hx
        · cases hx
          exact ⟨.ref a, g1, Rp.lst (.inl g2) (.inr rfl) (g5.move (fun _ z => .inl z) fun _ _ _ z => z)⟩
        · cases hx
      · rw [List.getElem?_set_ne hj] at hx
        obtain ⟨w, e1, e2⟩ := it.er.val j x hx
        exact ⟨w, e1, e2.move (fun _ z => .inl z) fun _ _ _ z => z⟩
    · obtain ⟨hj, hx⟩ := old j ds' hx
      obtain ⟨a', vs', k1, k2, k3, k4, k5⟩ := it.er.own j ds' hx
      refine ⟨a', vs', k1, k2, fun z => z.elim k3 fun e => ?_, k4, k5.move (fun _ z => .inl z) fun _ _ _ z => z⟩
      subst e
      exact hj (it.er.sep i j ds ds' a' hi hx g1 k1)
    · exact it.er.sep j k ds' es' a' (old j ds' h1).2 (old k es' h2).2 h3 h4
    · obtain ⟨hj, hx⟩ := oldL j ks hx
      obtain ⟨a', vs', k1, k2, k3, k4, k5⟩ := it.er.lam j ks hx
      refine ⟨a', vs', k1, k2, fun z => z.elim k3 fun e => ?_, k4, k5⟩
      subst e
      exact hj (it.er.lsep j i ks a' hx k1 g1 (.inl ⟨ds, hi⟩)).symm
    · obtain ⟨_, h1⟩ := oldL j ks h1
      refine it.er.lsep j k ks a' h1 h2 h3 ?_
      rcases h4 with ⟨es, h4⟩ | ⟨ls, h4⟩
      · exact .inl ⟨es, (old k es h4).2⟩
      · exact .inr ⟨ls, (oldL k ls h4).2⟩
    · exact it.own j ds' a' (old j ds' hx).2 hσ
    · rcases z with z | z
      · exact it.fe2 b z
      · exact .inr (by rw [z]; exact it.own i ds a hi g1)
  · exact h2.run pins s σ H D I ⟨F, ρ, st, it, h⟩
/-! ### small statements -/
theorem s_pass : PS X (.Pass pos) (rdS Z Fe W X.K X.mg .pass) := ⟨fun pins s σ H D I ⟨F, ρ, st, i, h⟩ => ps_pass.run pins s σ H D I (h F H σ RelF.refl i)⟩
theorem s_brk : PS X (.Break pos) (rdS Z Fe W X.K X.mg .brk) := ⟨fun pins s σ H D I ⟨F, ρ, st, i, h⟩ => ps_break.run pins s σ H D I (h F H σ RelF.refl i)⟩
theorem s_cnt : PS X (.Continue pos) (rdS Z Fe W X.K X.mg .cnt) := ⟨fun pins s σ H D I ⟨F, ρ, st, i, h⟩ => ps_continue.run pins s σ H D I (h F H σ RelF.refl i)⟩
theorem s_if {x : Te} {ss tt : List Stmt} {y z : Sms} (hc : PT X c (rdT Z W X.K X.mg x)) (h1 : PSs X ss (rdSs Z Fe W X.K X.mg y)) (h2 : PSs X tt (rdSs Z Fe W X.K X.mg z)) : PS X (.If c ss tt pos) (rdS Z Fe W X.K X.mg (.ife x y z)) := by
  refine ⟨fun pins s σ H D I ⟨F, ρ, st, i, h⟩ => ?_⟩
  simp only [ex] at h
  refine (ps_if hc h1 h2).run pins s σ H D I ⟨F, ρ, st, i.sit, i.er, Out.mono (OutS.bind i h) fun k st1 F1 H1 _ ⟨e1, i1, o⟩ => ?_⟩
  cases k with
  | true => exact ⟨F1, ρ, st1, i1, o⟩
  | false => exact ⟨F1, ρ, st1, i1, o⟩
theorem s_expr (ha : PE X a (rdE Z W X.K X.mg xa)) (hs : swapsWith a none pos.line X.env = pure false) : PS X (.Expr a pos) (rdS Z Fe W X.K X.mg (.expr xa)) := by
  refine ⟨fun pins s σ H D I ⟨F, ρ, st, i, h⟩ => ?_⟩
  simp only [ex] at h
  refine (ps_expr ha hs).run pins s σ H D I ⟨F, ρ, st, i.sit, i.er, Out.mono (OutS.bind i h) fun v st1 F1 H1 _ ⟨e1, i1, o⟩ w _ => o F1 H1 σ RelF.refl i1⟩
theorem s_doc {x : Str} {j : Nat} {y : Sms} {r : List Stmt} (h2 : PSs X r (rdSs Z Fe W X.K X.mg y)) : PSs X (.Expr (.Constant (.str x) j p1) p2 :: r) (rdSs Z Fe W X.K X.mg y) :=
  ⟨fun pins s σ H D I h => (pss_cons ps_doc h2).run pins s σ H D I h⟩
theorem s_retN : PS X (.Return none pos) (rdS Z Fe W X.K X.mg (.ret .no)) := ⟨fun pins s σ H D I ⟨F, ρ, st, i, h⟩ => ps_retN.run pins s σ H D I (h F H .non RelF.refl i.sit i.fe1 i.fe2 (Rp.non))⟩
/-- the returned value: own lists, new lists freeze -/
theorem VT.any {w : V} {x : Val} {k : Kd} (i : StI Z Fe X.K σ ρ F H st) (f : ∀ a, H a = none → H0 a = none) (pr : ∀ a o, Z.T.he a = some o → ∃ o', H0 a = some o') (v : VT (rc Z X) H0 F H σ ρ w x k) :
    ∃ F2, RelS Z.p F H F2 H ∧ Sit Z.T Z.p F2 H st ∧ (∀ a, Fe a → F2 a) ∧ (∀ a, F2 a → Fe a ∨ Z.T.he a = none) ∧ VR (rc Z X) F2 H w x := by
  have key : ∀ (a : Addr) (vs : List V) (ds : List PyData), H a = some (.lst vs) → Z.p ≠ some a → Z.T.he a = none → Rps X.K F H vs ds →
      ∃ F2, RelS Z.p F H F2 H ∧ Sit Z.T Z.p F2 H st ∧ (∀ a, Fe a → F2 a) ∧ (∀ a, F2 a → Fe a ∨ Z.T.he a = none) ∧ VR (rc Z X) F2 H (.ref a) (.d (.list ds)) := fun a vs ds h1 h2 h3 h4 => by
    refine ⟨fun b => F b ∨ b = a, ⟨fun b z => .inl z, fun b o _ z _ _ => z⟩, ⟨fun q e => ?_, fun b z => ?_, i.sit.tabs, i.sit.ent, i.sit.pres, fun a z => .inl (i.sit.fe a z)⟩, fun b z => .inl (i.fe1 b z), fun b z => z.elim (i.fe2 b) fun e => .inr (by rw [e]; exact h3), Rp.lst (.inl h1) (.inr rfl) (h4.move (fun _ z => .inl z) fun _ _ _ z => z)⟩
    · obtain ⟨k1, k2⟩ := i.sit.pot q e
      exact ⟨k1, fun z => z.elim k2 fun e' => h2 (by rw [← e']; exact e)⟩
    · rcases z with z | z
      · exact i.sit.fz b z
      · exact ⟨_, by rw [z]; exact h1, fun ps z => by cases z⟩
  cases k with
  | cl => exact ⟨F, RelF.refl, i.sit, i.fe1, i.fe2, v⟩
  | ow =>
    obtain ⟨j, ds, h1, h2, rfl⟩ := v
    obtain ⟨a, vs, g1, g2, g3, g4, g5⟩ := i.er.own j ds h1
    rw [h2] at g1
    cases g1
    exact key a vs ds g2 g4 (i.own j ds a h1 h2) g5
  | fr =>
    obtain ⟨a, vs, ds, rfl, rfl, e3, e4, e5, e6, e7⟩ := v
    refine key a vs ds e3 e5 ?_ e7
    cases q : Z.T.he a with
    | none => rfl
    | some o =>
      obtain ⟨o', q'⟩ := pr a o q
      rw [e6] at q'; cases q'
theorem s_ret (ha : PE X a (rdE Z W X.K X.mg xa)) : PS X (.Return (some a) pos) (rdS Z Fe W X.K X.mg (.ret (.so xa))) := by
  refine ⟨fun pins s σ H D I ⟨F, ρ, st, i, h⟩ => ?_⟩
  simp only [ex] at h
  refine (ps_ret ha).run pins s σ H D I ⟨F, ρ, st, i.sit, i.er, Out.mono (OutS.bind i h) fun v st1 F1 H1 _ ⟨e1, i1, o⟩ w v1 => ?_⟩
  obtain ⟨F2, r2, s2, f1, f2, v2⟩ := VT.any i1 e1.fresh i.sit.pres v1
  exact o F2 H1 w r2 s2 f1 f2 v2
end
end PyD
namespace PyD
open PySem PySem.Spec PyProof.Rows L2
section
variable {Z : Zx} {Fe : Addr → Prop} {W : WX} {X : Cx} {lv : Nat} {a b c e : Expr} {xa xb xc : Ex} {pos p1 p2 p3 : Pos} {pins : List (Addr × Obj)} {s : Shared} {σ : L2.St} {H H0 : Hp} {F F0 : Addr → Prop} {ρ : List Sl} {st st0 : Pot}
theorem he_none (pr : ∀ a o, Z.T.he a = some o → ∃ o', H0 a = some o') {a : Addr} (h : H0 a = none) : Z.T.he a = none := by
  cases q : Z.T.he a with
  | none => rfl
  | some o =>
    obtain ⟨o', q'⟩ := pr a o q
    rw [h] at q'; cases q'
/-- a value that is not one's own list is made clean -/
theorem StI.clean {w : V} {x : Val} {k : Kd} (i0 : StI Z Fe X.K σ ρ F0 H0 st0) (e : Ext Z.p F0 H0 F H) (S : Sit Z.T Z.p F H st) (v : VT (rc Z X) H0 F H σ ρ w x k) (hk : k ≠ .ow) :
    ∃ F2, RelS Z.p F H F2 H ∧ StI Z Fe X.K σ ρ F2 H st ∧ VR (rc Z X) F2 H w x := by
  obtain ⟨F2, f2, v2⟩ := v.clean S hk
  exact ⟨F2, ⟨f2.sub, fun a o _ z _ _ => z⟩, i0.ext (f2.ext e) f2.sit, v2⟩
theorem StI.set {w : V} {x : Val} (i0 : StI Z Fe X.K σ ρ F H st) (v : VR (rc Z X) F H w x) (i : Nat) : StI Z Fe X.K (σ.set i (some w)) (ρ.set i (.v x)) F H st := by
  refine ⟨i0.sit, i0.er.set v i, fun j ds a h1 h2 => ?_, i0.fe1, i0.fe2, fun j ks a h1 h2 => ?_⟩
  · by_cases hj : i = j
    · subst hj
      rw [List.getElem?_set] at h1
      simp only [if_true] at h1
      split at h1 <;> cases h1
    · rw [List.getElem?_set_ne hj] at h1 h2
      exact i0.own j ds a h1 h2
  · by_cases hj : i = j
    · subst hj
      rw [List.getElem?_set] at h1
      simp only [if_true] at h1
      split at h1 <;> cases h1
    · rw [List.getElem?_set_ne hj] at h1 h2
      exact i0.lamn j ks a h1 h2
theorem StI.setOwn {a : Addr} {vs : List V} {ds : List PyData} (i0 : StI Z Fe X.K σ ρ F H st) (h1 : H a = some (.lst vs)) (h2 : ¬ F a) (h3 : Z.p ≠ some a) (h4 : Z.T.he a = none) (h5 : Rps X.K F H vs ds) (i : Nat)
    (h6 : ∀ (j : Nat) es, ρ[j]? = some (Sl.own es) → σ[j]? ≠ some (some (V.ref a))) (h7 : ∀ (j : Nat) ks, ρ[j]? = some (Sl.lamL ks) → σ[j]? ≠ some (some (V.ref a))) : StI Z Fe X.K (σ.set i (some (.ref a))) (ρ.set i (.own ds)) F H st := by
  have hl := i0.er.len
  have get : ∀ (j : Nat) (x : Sl), (ρ.set i (Sl.own ds))[j]? = some x → (i = j ∧ x = .own ds ∧ (σ.set i (some (V.ref a)))[j]? = some (some (.ref a))) ∨ (i ≠ j ∧ ρ[j]? = some x ∧ (σ.set i (some (V.ref a)))[j]? = σ[j]?) := fun j x h => by
    by_cases hj : i = j
    · subst hj
      rw [List.getElem?_set] at h
      simp only [if_true] at h
      split at h
      · rename_i hi
        cases h
        refine .inl ⟨rfl, rfl, ?_⟩
        rw [List.getElem?_set]; simp only [if_true]; rw [if_pos (by omega)]
      · cases h
    · rw [List.getElem?_set_ne hj] at h
      exact .inr ⟨hj, h, List.getElem?_set_ne hj⟩
  refine ⟨i0.sit, ⟨by rw [List.length_set, List.length_set, hl], fun j x h => ?_, fun j es h => ?_, fun j k es es' b q1 q2 q3 q4 => ?_, fun j ks q => ?_, fun j k ks b q1 q2 q3 q4 => ?_⟩, fun j es b q1 q2 => ?_, i0.fe1, i0.fe2, fun j ks b q1 q2 => ?_⟩
  · rcases get j _ h with ⟨_, z, _⟩ | ⟨hj, z, q⟩
    · cases z
    · obtain ⟨w, e1, e2⟩ := i0.er.val j x z
      exact ⟨w, by rw [q]; exact e1, e2⟩
  · rcases get j _ h with ⟨_, z, q⟩ | ⟨hj, z, q⟩
    · cases z
      exact ⟨a, vs, q, h1, h2, h3, h5⟩
    · obtain ⟨b, ws, e1, e2⟩ := i0.er.own j es z
      exact ⟨b, ws, by rw [q]; exact e1, e2⟩
  · rcases get j _ q1 with ⟨j1, z1, r1⟩ | ⟨j1, z1, r1⟩
    · rcases get k _ q2 with ⟨k1, z2, r2⟩ | ⟨k1, z2, r2⟩
      · omega
      · rw [r1] at q3
        cases q3
        rw [r2] at q4
        exact absurd q4 (h6 k es' z2)
    · rcases get k _ q2 with ⟨k1, z2, r2⟩ | ⟨k1, z2, r2⟩
      · rw [r2] at q4
        cases q4
        rw [r1] at q3
        exact absurd q3 (h6 j es z1)
      · rw [r1] at q3
        rw [r2] at q4
        exact i0.er.sep j k es es' b z1 z2 q3 q4
  · rcases get j _ q with ⟨_, z, _⟩ | ⟨hj, z, r⟩
    · cases z
    · obtain ⟨b, ws, e1, e2⟩ := i0.er.lam j ks z
      exact ⟨b, ws, by rw [r]; exact e1, e2⟩
  · rcases get j _ q1 with ⟨_, z, _⟩ | ⟨hj, z, r⟩
    · cases z
    · rw [r] at q2
      rcases q4 with ⟨es, q4⟩ | ⟨ls, q4⟩
      · rcases get k _ q4 with ⟨k1, z2, r2⟩ | ⟨k1, z2, r2⟩
        · rw [r2] at q3
          cases q3
          exact absurd q2 (h7 j ks z)
        · rw [r2] at q3
          exact i0.er.lsep j k ks b z q2 q3 (.inl ⟨es, z2⟩)
      · rcases get k _ q4 with ⟨k1, z2, r2⟩ | ⟨k1, z2, r2⟩
        · cases z2
        · rw [r2] at q3
          exact i0.er.lsep j k ks b z q2 q3 (.inr ⟨ls, z2⟩)
  · rcases get j _ q1 with ⟨j1, z1, r1⟩ | ⟨j1, z1, r1⟩
    · rw [r1] at q2
      cases q2
      exact h4
    · rw [r1] at q2
      exact i0.own j es b z1 q2
  · rcases get j _ q1 with ⟨j1, z1, r1⟩ | ⟨j1, z1, r1⟩
    · cases z1
    · rw [r1] at q2
      exact i0.lamn j ks b z1 q2
/-! ### name = value -/
theorem asg_read {i : Nat} {D : Ends} (h : rdS Z Fe W X.K X.mg (.asg (.nm i) xa) D σ H) : tAsg (rdE Z W X.K X.mg xa) (gName i) D σ H := by
  obtain ⟨F, ρ, st, it, h⟩ := h
  simp only [ex] at h
  refine ⟨F, ρ, st, it.sit, it.er, Out.mono (OutS.bind it h) fun v st1 F1 H1 _ ⟨e1, i1, o⟩ w v1 => ?_⟩
  obtain ⟨v, k⟩ := v
  have hk : k ≠ .ow := fun z => by
    subst z
    exact o.elim
  obtain ⟨F2, r2, i2, v2⟩ := it.clean e1 i1.sit v1 hk
  have o : OutS Z Fe W X.K X.mg F1 H1 (.ok (.nx (ρ.set i (.v v))) st1) D := by
    cases k with
    | cl => exact o
    | fr => exact o
    | ow => exact o.elim
  exact o F2 H1 _ r2 (i2.set v2 i)
theorem own_read {i : Nat} {D : Ends} (h : rdS Z Fe W X.K X.mg (.own i xa) D σ H) : tAsg (rdE Z W X.K X.mg xa) (gName i) D σ H := by
  obtain ⟨F, ρ, st, it, h⟩ := h
  simp only [ex] at h
  refine ⟨F, ρ, st, it.sit, it.er, Out.mono (OutS.bind it h) fun v st1 F1 H1 _ ⟨e1, i1, o⟩ w v1 => ?_⟩
  obtain ⟨v, k⟩ := v
  split at o
  · rename_i ds hv
    cases hv
    obtain ⟨a, vs, es, rfl, e2, e3, e4, e5, e6, e7⟩ := v1
    cases e2
    refine o F1 H1 _ RelF.refl (i1.setOwn e3 e4 e5 (he_none it.sit.pres e6) e7 i (fun j es hj hσ => ?_) fun j ks hj hσ => ?_)
    · obtain ⟨b, ws, g1, g2, _⟩ := it.er.own j es hj
      rw [hσ] at g1
      cases g1
      rw [e6] at g2; cases g2
    · obtain ⟨b, ws, g1, g2, _⟩ := it.er.lam j ks hj
      rw [hσ] at g1
      cases g1
      rw [e6] at g2; cases g2
  · exact o.elim
theorem s_setG {i : Nat} {y : Str} {py : Pos} {x : Sm} (hN : X.N.Nodup) (hy : X.N[i]? = some y) (hx : Loc X.env.scope y) (hf : X.fn y = true ∨ X.env.scope.names.lookup y = some .local) (ha : PE X a (rdE Z W X.K X.mg xa)) (hs : swapsWith a (some (.Name y py)) pos.line X.env = pure false)
    (rd : ∀ D σ H, rdS Z Fe W X.K X.mg x D σ H → tAsg (rdE Z W X.K X.mg xa) (gName i) D σ H) : PS X (.Assign [.Name y py] a pos) (rdS Z Fe W X.K X.mg x) :=
  ⟨fun pins s σ H D I h => (ps_set hN hy hx ha hs hf).run pins s σ H D I (rd D σ H h)⟩
theorem s_setL {i : Nat} {y : Str} {py spos : Pos} {elt tg iter : Expr} {ifs : List Expr} {scope : Scope} {own : List (Str × Nat)} {xi : It} {xc : Ot} {xe : Ex} {t : Tg} {x : Sm} (g : Good Z W X lv) (hy : X.N[i]? = some y) (hyl : X.env.scope.names.lookup y = some .local)
    (hsw : swapsWith (.ListComp elt [⟨tg, iter, ifs, 0⟩] scope pos) (some (.Name y py)) spos.line X.env = pure true) (hi : PI X tg iter (rdI Z W X.K X.mg xi)) (ok : BlkOk X.N X.env.scope scope own) (hix : ∀ i ∈ t.ixs, i ∈ own.map (·.2))
    (hg : ∀ (s : Shared) (H : Hp) (C : Addr) (cl : List (Str × Addr)) (fp : List Addr), PG (X.blk s H scope (compEnvC scope cl C X.env) fp) tg (gTg X.K t))
    (ht : ∀ (s : Shared) (H : Hp) (C : Addr) (cl : List (Str × Addr)) (fp : List Addr), PTs (X.blk s H scope (compEnvC scope cl C X.env) fp) ifs (rdOt Z.blk W0 X.K X.mg xc))
    (he : ∀ (s : Shared) (H : Hp) (C : Addr) (cl : List (Str × Addr)) (fp : List Addr), PE (X.blk s H scope (compEnvC scope cl C X.env) fp) elt (rdE Z.blk W0 X.K X.mg xe)) (hs : ∀ x, foldedSetIterable iter X.env x = pure x)
    (rd : ∀ D σ H, rdS Z Fe W X.K X.mg x D σ H → tAsg (rdE Z W X.K X.mg (.lc t xi xc xe own)) (gName i) D σ H) :
    PS X (.Assign [.Name y py] (.ListComp elt [⟨tg, iter, ifs, 0⟩] scope pos) spos) (rdS Z Fe W X.K X.mg x) :=
  ⟨fun pins s σ H D I h => (ps_setLc g.calm g.nd hy hyl hsw hi ok hg ht he hs).run pins s σ H D I (lc_read hix (rd D σ H h))⟩
/-! ### a, b = value -/
theorem StI.stG : ∀ {is : List Nat} {vs : List V} {ds : List PyData} {σ : L2.St} {ρ : List Sl}, StI Z Fe X.K σ ρ F H st → Rps X.K F H vs ds → StI Z Fe X.K (PyD.stG is vs σ) ((is.zip ds).foldl (fun ρ p => ρ.set p.1 (.v (.d p.2))) ρ) F H st
  | [], _, _, _, _, i, _ => by
    unfold PyD.stG
    exact i
  | _ :: _, [], ds, _, _, i, r => by
    cases r
    exact i
  | j :: is, v :: vs, ds, _, _, i, r => by
    cases r with
    | @cons _ _ d _ q r => exact (i.set (x := .d d) q j).stG r
theorem StI.bindT {x : PyData} {w : V} {t : Tg} {ρ1 : List Sl} {Q : L2.St → Hp → Prop} (i : StI Z Fe X.K σ ρ F H st) (hb : bindT t x ρ = some ρ1) (r : Rp X.K F H w x) (h : ∀ σ1, StI Z Fe X.K σ1 ρ1 F H st → Q σ1 H) : gTg X.K t w σ H Q := by
  cases t with
  | nm j =>
    have e : ρ.set j (.v (.d x)) = ρ1 := Option.some.inj hb
    subst e
    exact h _ (i.set (x := .d x) r j)
  | tup is =>
    unfold PyD.bindT at hb
    simp only at hb
    split at hb
    · rename_i xs
      split at hb
      · rename_i hl
        have e := Option.some.inj hb
        subst e
        cases r with
        | @tup a vs _ q rr => exact ⟨a, vs, rfl, q.elim (fun z => .inl z.1) sqT_nil, by rw [rr.length]; exact hl.symm, h _ (i.stG rr)⟩
      · cases hb
    · cases hb
theorem s_asgT {tg : Expr} {is : List Nat} (ha : PE X a (rdE Z W X.K X.mg xa)) (hg : PG X tg (gTg X.K (.tup is))) (hs : swapsWithSole [tg] a pos.line X.env = pure false) (hw : swappedStores [tg] a X.env = pure none) (h1 : (assignEach [tg] X.env).map (·.2) = [assign tg X.env]) :
    PS X (.Assign [tg] a pos) (rdS Z Fe W X.K X.mg (.asg (.tup is) xa)) := by
  refine ⟨fun pins s σ H D I ⟨F, ρ, st, it, h⟩ => ?_⟩
  simp only [ex] at h
  refine (ps_asg ha hg hs hw h1).run pins s σ H D I ⟨F, ρ, st, it.sit, it.er, Out.mono (OutS.bind it h) fun v st1 F1 H1 _ ⟨e1, i1, o⟩ w v1 => ?_⟩
  obtain ⟨v, k⟩ := v
  cases v with
  | d x =>
    have o' : k ≠ .ow ∧ OutS Z Fe W X.K X.mg F1 H1 (match PyD.bindT (.tup is) x ρ with | some ρ => .ok (.nx ρ) st1 | none => .bad) D := by
      cases k with
      | cl => exact ⟨(fun z => by cases z), o⟩
      | fr => exact ⟨(fun z => by cases z), o⟩
      | ow => exact o.elim
    obtain ⟨hk, o'⟩ := o'
    cases hb : PyD.bindT (.tup is) x ρ with
    | none =>
      rw [hb] at o'
      exact o'.elim
    | some ρ1 =>
      rw [hb] at o'
      obtain ⟨F2, r2, i2, v2⟩ := it.clean e1 i1.sit v1 hk
      exact i2.bindT hb v2 fun σ1 i3 => o' F2 H1 σ1 r2 i3
  | pot => cases k <;> exact o.elim
  | lam m => cases k <;> exact o.elim
  | lams m => cases k <;> exact o.elim
end
end PyD
namespace PyD
open PySem PySem.Spec PyProof.Rows L2
section
variable {Z : Zx} {Fe : Addr → Prop} {W : WX} {X : Cx} {lv : Nat} {a b c e : Expr} {xa xb xc : Ex} {pos p1 p2 p3 : Pos} {pins : List (Addr × Obj)} {s : Shared} {σ σ0 : L2.St} {H H0 : Hp} {F F0 : Addr → Prop} {ρ ρ0 : List Sl} {st st0 : Pot}
/-- a new list freezes; the others stay new -/
theorem VTs.freeze {a : Addr} : ∀ {ws : List V} {as : List (Val × Kd)}, VTs (rc Z X) H0 F H σ ρ ws as → (∀ x ∈ ws.zip as, x.2.2 = .fr → x.1 ≠ .ref a) → VTs (rc Z X) H0 (fun b => F b ∨ b = a) H σ ρ ws as
  | _, _, .nil, _ => .nil
  | _, _, .cons (w := w) (x := x) (k := k) q r, h => by
    refine .cons ?_ (VTs.freeze r fun y hy => h y (by rw [List.zip_cons_cons]; exact List.mem_cons_of_mem _ hy))
    cases k with
    | cl => exact VR.move (fun _ z => .inl z) (fun _ _ _ z => z) q
    | ow => exact q
    | fr =>
      obtain ⟨b, vs, ds, rfl, e2, e3, e4, e5, e6, e7⟩ := q
      refine ⟨b, vs, ds, rfl, e2, e3, fun z => z.elim e4 fun z => ?_, e5, e6, e7.move (fun _ z => .inl z) fun _ _ _ z => z⟩
      exact h (.ref b, (x, .fr)) (by rw [List.zip_cons_cons]; exact List.mem_cons_self ..) rfl (by rw [z])
theorem StI.freeze {a : Addr} {vs : List V} (i : StI Z Fe X.K σ ρ F H st) (h1 : H a = some (.lst vs)) (h2 : Z.p ≠ some a) (h3 : Z.T.he a = none) (h4 : ∀ (j : Nat) es, ρ[j]? = some (Sl.own es) → σ[j]? ≠ some (some (V.ref a))) (h5 : ∀ (j : Nat) ks, ρ[j]? = some (Sl.lamL ks) → σ[j]? ≠ some (some (V.ref a))) :
    StI Z Fe X.K σ ρ (fun b => F b ∨ b = a) H st := by
  refine ⟨⟨fun q e => ?_, fun b z => ?_, i.sit.tabs, i.sit.ent, i.sit.pres, fun a z => .inl (i.sit.fe a z)⟩, ⟨i.er.len, fun j x h => ?_, fun j ds h => ?_, i.er.sep, fun j ks h => ?_, i.er.lsep⟩, i.own, fun b z => .inl (i.fe1 b z), fun b z => z.elim (i.fe2 b) fun e => .inr (by rw [e]; exact h3), i.lamn⟩
  · obtain ⟨k1, k2⟩ := i.sit.pot q e
    exact ⟨k1, fun z => z.elim k2 fun e' => h2 (by rw [← e']; exact e)⟩
  · rcases z with z | z
    · exact i.sit.fz b z
    · exact ⟨_, by rw [z]; exact h1, fun ps z => by cases z⟩
  · obtain ⟨w, e1, e2⟩ := i.er.val j x h
    exact ⟨w, e1, e2.move (fun _ z => .inl z) fun _ _ _ z => z⟩
  · obtain ⟨b, ws, e1, e2, e3, e4, e5⟩ := i.er.own j ds h
    refine ⟨b, ws, e1, e2, fun z => z.elim e3 fun z => ?_, e4, e5.move (fun _ z => .inl z) fun _ _ _ z => z⟩
    rw [z] at e1
    exact h4 j ds h e1
  · obtain ⟨b, ws, e1, e2, e3, e4, e5⟩ := i.er.lam j ks h
    refine ⟨b, ws, e1, e2, fun z => z.elim e3 fun z => ?_, e4, e5⟩
    rw [z] at e1
    exact h5 j ks h e1
/-- no own slot holds one of the new lists -/
def isOL : Sl → Prop
  | .own _ => True
  | .lamL _ => True
  | _ => False
def Pend (σ : L2.St) (ρ : List Sl) (ws : List V) (as : List (Val × Kd)) : Prop := ∀ x ∈ ws.zip as, x.2.2 = .fr → ∀ (j : Nat) s, ρ[j]? = some s → isOL s → σ[j]? ≠ some (some x.1)
theorem par_store (pr : ∀ a o, Z.T.he a = some o → ∃ o', H0 a = some o') : ∀ {is : List (Nat × Bool)} {ws : List V} {as : List (Val × Kd)} {σ : L2.St} {ρ ρ1 : List Sl} {F : Addr → Prop}, StI Z Fe X.K σ ρ F H st → VTs (rc Z X) H0 F H σ0 ρ0 ws as → Dis ws as → Pend σ ρ ws as → parGo is as ρ = some ρ1 →
    ws.length = is.length ∧ ∃ F', RelS Z.p F H F' H ∧ StI Z Fe X.K (stG (is.map (·.1)) ws σ) ρ1 F' H st
  | [], ws, as, σ, ρ, ρ1, F, i, v, d, p, h => by
    cases as with
    | nil =>
      cases v
      have e : ρ = ρ1 := by simpa [parGo] using h
      subst e
      exact ⟨rfl, F, RelF.refl, by unfold stG; exact i⟩
    | cons x r => simp [parGo] at h
  | (j, o) :: is, ws, as, σ, ρ, ρ1, F, i, v, d, p, h => by
    cases v with
    | nil => cases o <;> simp [parGo] at h
    | @cons w ws x k as q r =>
      have ptail : ∀ {σ' : L2.St} {ρ' : List Sl}, (∀ y ∈ ws.zip as, y.2.2 = .fr → ∀ (l : Nat) s, ρ'[l]? = some s → isOL s → σ'[l]? ≠ some (some y.1)) → Pend σ' ρ' ws as := fun h => h
      have old : ∀ y ∈ ws.zip as, y.2.2 = .fr → ∀ (l : Nat) s, ρ[l]? = some s → isOL s → σ[l]? ≠ some (some y.1) := fun y hy => p y (by rw [List.zip_cons_cons]; exact List.mem_cons_of_mem _ hy)
      cases o with
      | false =>
        have keep : ∀ {F' : Addr → Prop} {u : Val}, RelS Z.p F H F' H → StI Z Fe X.K σ ρ F' H st → VTs (rc Z X) H0 F' H σ0 ρ0 ws as → VR (rc Z X) F' H w u → parGo is as (ρ.set j (.v u)) = some ρ1 →
            (w :: ws).length = ((j, false) :: is).length ∧ ∃ F', RelS Z.p F H F' H ∧ StI Z Fe X.K (stG (((j, false) :: is).map (·.1)) (w :: ws) σ) ρ1 F' H st := fun {F' u} rl i' r' vr hg => by
          have pp : Pend (σ.set j (some w)) (ρ.set j (.v u)) ws as := ptail fun y hy hk l es hl ho => by
            by_cases hj : j = l
            · subst hj
              rw [List.getElem?_set] at hl
              simp only [if_true] at hl
              split at hl
              · cases hl
                exact ho.elim
              · cases hl
            · rw [List.getElem?_set_ne hj] at hl ⊢
              exact old y hy hk l es hl ho
          obtain ⟨l, F2, r2, i2⟩ := par_store pr (i'.set vr j) r' d.2 pp hg
          exact ⟨by rw [List.length_cons, List.length_cons, l], F2, rl.trans r2, i2⟩
        cases k with
        | cl => exact keep RelF.refl i r q (by simpa [parGo] using h)
        | ow => simp [parGo] at h
        | fr =>
          obtain ⟨a, vs, ds, rfl, rfl, e3, e4, e5, e6, e7⟩ := q
          have dh := d.1 rfl
          refine keep (F' := fun b => F b ∨ b = a) ⟨fun b z => .inl z, fun b o _ z _ _ => z⟩ (i.freeze e3 e5 (he_none pr e6) (fun l es hl => p (.ref a, (.d (.list ds), .fr)) (by rw [List.zip_cons_cons]; exact List.mem_cons_self ..) rfl l _ hl trivial) fun l es hl => p (.ref a, (.d (.list ds), .fr)) (by rw [List.zip_cons_cons]; exact List.mem_cons_self ..) rfl l _ hl trivial) (r.freeze fun y hy hk => dh y hy hk) (show VR (rc Z X) (fun b => F b ∨ b = a) H (V.ref a) (.d (.list ds)) from Rp.lst (.inl e3) (.inr rfl) (e7.move (fun _ z => .inl z) fun _ _ _ z => z)) (by simpa [parGo] using h)
      | true =>
        cases k with
        | cl => simp [parGo] at h
        | ow => simp [parGo] at h
        | fr =>
          obtain ⟨a, vs, ds, rfl, rfl, e3, e4, e5, e6, e7⟩ := q
          have dh := d.1 rfl
          have hg : parGo is as (ρ.set j (.own ds)) = some ρ1 := by simpa [parGo] using h
          have i' := i.setOwn e3 e4 e5 (he_none pr e6) e7 j (fun l es hl => p (.ref a, (.d (.list ds), .fr)) (by rw [List.zip_cons_cons]; exact List.mem_cons_self ..) rfl l _ hl trivial) fun l es hl => p (.ref a, (.d (.list ds), .fr)) (by rw [List.zip_cons_cons]; exact List.mem_cons_self ..) rfl l _ hl trivial
          have pp : Pend (σ.set j (some (.ref a))) (ρ.set j (.own ds)) ws as := ptail fun y hy hk l es hl ho hs => by
            by_cases hj : j = l
            · subst hj
              rw [List.getElem?_set] at hs
              simp only [if_true] at hs
              split at hs
              · have e := Option.some.inj (Option.some.inj hs)
                exact dh y hy hk e.symm
              · cases hs
            · rw [List.getElem?_set_ne hj] at hl hs
              exact old y hy hk l es hl ho hs
          obtain ⟨l, F2, r2, i2⟩ := par_store pr i' r d.2 pp hg
          exact ⟨by rw [List.length_cons, List.length_cons, l], F2, r2, i2⟩
theorem par_read {is : List (Nat × Bool)} {xs : Exs} {D : Ends} (h : rdS Z Fe W X.K X.mg (.par is xs) D σ H) : rdA Z W X.K X.mg xs σ H fun vs H1 => vs.length = is.length ∧ D.nx (stG (is.map (·.1)) vs σ) H1 := by
  obtain ⟨F, ρ, st, it, h⟩ := h
  simp only [ex] at h
  refine ⟨F, ρ, st, it.sit, it.er, Out.mono (OutS.bind it h) fun as st1 F1 H1 _ ⟨e1, i1, o⟩ ws v dd => ?_⟩
  cases hg : parGo is as ρ with
  | none => rw [hg] at o; exact o.elim
  | some ρ1 =>
    rw [hg] at o
    obtain ⟨l, F2, r2, i2⟩ := par_store it.sit.pres i1 v dd (fun y hy hk j s hj ho hσ => by
      obtain ⟨a, e1, e2⟩ := v.fr y hy hk
      cases s with
      | own es =>
        obtain ⟨b, us, g1, g2, _⟩ := it.er.own j es hj
        rw [hσ, e1] at g1
        cases g1
        rw [e2] at g2; cases g2
      | lamL es =>
        obtain ⟨b, us, g1, g2, _⟩ := it.er.lam j es hj
        rw [hσ, e1] at g1
        cases g1
        rw [e2] at g2; cases g2
      | un => exact ho
      | v x => exact ho) hg
    exact ⟨l, o F2 H1 _ r2 i2⟩
theorem ps_parG {is : List Nat} {tgs es : List Expr} {ta : TA} {pt pt2 : Pos} {kt k2 : Nat} (hc : X.calm = true) (hg : PGs X tgs (fun vs σ H Q => vs.length = is.length ∧ Q (stG is vs σ) H)) (ha : PA X es ta) (hs : swapsWithSole [.Tuple tgs kt pt] (.Tuple es k2 pt2) pos.line X.env = pure false)
    (hw : swappedStores [.Tuple tgs kt pt] (.Tuple es k2 pt2) X.env = pure none) (h1 : (assignEach [.Tuple tgs kt pt] X.env).map (·.2) = [assign (.Tuple tgs kt pt) X.env]) (hn : (assignEach tgs X.env).length = is.length) (hst : (assignEach tgs X.env).findIdx? (·.1) = none) (hl : is.length ≤ 1000) :
    PS X (.Assign [.Tuple tgs kt pt] (.Tuple es k2 pt2) pos) (fun D σ H => ta σ H fun vs H1 => vs.length = is.length ∧ D.nx (stG is vs σ) H1) := by
  refine ⟨fun pins s σ H D I h => ?_⟩
  refine wpAny_Assign_stores (wpAny_Tuple_spliced (thn (ha.run pt2 pins s σ H _ I h) fun us s1 ⟨vs, H1, I1, r, l, q⟩ => ⟨by rw [← Paired.length r, l, sizeLine_eq]; omega, ?_⟩)) hs hw
  have I2 : Inv X pins σ H1 { s1 with heap := s1.heap.push { cls := .type "tuple", data := .seq us.toArray } } := I1.kept (t' := s1.toks) fun b o e => Heap.get?_push_of_some _ e
  rw [h1]
  show wpAny _ _ (assign (.Tuple tgs kt pt) X.env (.ref s1.heap.objs.size)) _ _ _
  refine assign_Tuple_tuple (I2.ok.hd hc) (IsTup.new s1.heap _) (by rw [hn, ← l, Paired.length r]; simp) hst fun h' hx => ?_
  have I3 := I2.kept (h' := h') (t' := s1.toks) fun b o e => hx b o (Nat.ne_of_lt (Heap.lt_size e)) e
  exact thn (hg.run pins _ σ H1 vs _ D.nx I3 (by simpa using r) ⟨l, q⟩) fun _ s2 q => q
theorem s_parG {is : List (Nat × Bool)} {tgs es : List Expr} {xs : Exs} {pt pt2 : Pos} {kt k2 : Nat} (g : Good Z W X lv) (hg : PGs X tgs (fun vs σ H Q => vs.length = (is.map (·.1)).length ∧ Q (stG (is.map (·.1)) vs σ) H)) (ha : PA X es (rdA Z W X.K X.mg xs)) (hs : swapsWithSole [.Tuple tgs kt pt] (.Tuple es k2 pt2) pos.line X.env = pure false)
    (hw : swappedStores [.Tuple tgs kt pt] (.Tuple es k2 pt2) X.env = pure none) (h1 : (assignEach [.Tuple tgs kt pt] X.env).map (·.2) = [assign (.Tuple tgs kt pt) X.env]) (hn : (assignEach tgs X.env).length = (is.map (·.1)).length) (hst : (assignEach tgs X.env).findIdx? (·.1) = none) (hl : (is.map (·.1)).length ≤ 1000) :
    PS X (.Assign [.Tuple tgs kt pt] (.Tuple es k2 pt2) pos) (rdS Z Fe W X.K X.mg (.par is xs)) :=
  ⟨fun pins s σ H D I h => (ps_parG g.calm hg ha hs hw h1 hn hst hl).run pins s σ H D I (by rw [List.length_map]; exact par_read h)⟩
theorem s_par2 {i j : Nat} {oi oj : Bool} {x y : Str} {xs : Exs} {px py pt pt2 : Pos} {kt k2 : Nat} (g : Good Z W X lv) (hi : X.N[i]? = some x) (hj : X.N[j]? = some y) (hij : i ≠ j) (hx : X.env.scope.names.lookup x = some .local) (hy : X.env.scope.names.lookup y = some .local) (ha : PA X [a, b] (rdA Z W X.K X.mg xs))
    (hw : swappedStores [.Tuple [.Name x px, .Name y py] kt pt] (.Tuple [a, b] k2 pt2) X.env = pure (some [x, y])) (hs : swapsWithSole [.Tuple [.Name x px, .Name y py] kt pt] (.Tuple [a, b] k2 pt2) pos.line X.env = pure false) :
    PS X (.Assign [.Tuple [.Name x px, .Name y py] kt pt] (.Tuple [a, b] k2 pt2) pos) (rdS Z Fe W X.K X.mg (.par [(i, oi), (j, oj)] xs)) := by
  refine ⟨fun pins s σ H D I h => (ps_par g.calm g.nd hi hj hij hx hy ha hw hs).run pins s σ H D I ?_⟩
  obtain ⟨F, ρ, st, h1, h2, h3⟩ := par_read h
  refine ⟨F, ρ, st, h1, h2, Out.mono h3 fun as st1 F1 H1 _ q ws v d => ?_⟩
  obtain ⟨l, q⟩ := q ws v d
  match ws, l, q with
  | [u, w], _, q => exact ⟨u, w, rfl, q⟩
theorem s_par3 {i j k : Nat} {oi oj ok : Bool} {x y z : Str} {xs : Exs} {px py pz pt pt2 : Pos} {kt k2 : Nat} (g : Good Z W X lv) (hi : X.N[i]? = some x) (hj : X.N[j]? = some y) (hk : X.N[k]? = some z) (hij : i ≠ j) (hik : i ≠ k) (hjk : j ≠ k) (hx : X.env.scope.names.lookup x = some .local) (hy : X.env.scope.names.lookup y = some .local) (hz : X.env.scope.names.lookup z = some .local) (ha : PA X [a, b, c] (rdA Z W X.K X.mg xs))
    (hw : swappedStores [.Tuple [.Name x px, .Name y py, .Name z pz] kt pt] (.Tuple [a, b, c] k2 pt2) X.env = pure (some [x, y, z])) (hs : swapsWithSole [.Tuple [.Name x px, .Name y py, .Name z pz] kt pt] (.Tuple [a, b, c] k2 pt2) pos.line X.env = pure false) :
    PS X (.Assign [.Tuple [.Name x px, .Name y py, .Name z pz] kt pt] (.Tuple [a, b, c] k2 pt2) pos) (rdS Z Fe W X.K X.mg (.par [(i, oi), (j, oj), (k, ok)] xs)) := by
  refine ⟨fun pins s σ H D I h => (ps_par3 g.calm g.nd hi hj hk hij hik hjk hx hy hz ha hw hs).run pins s σ H D I ?_⟩
  obtain ⟨F, ρ, st, h1, h2, h3⟩ := par_read h
  refine ⟨F, ρ, st, h1, h2, Out.mono h3 fun as st1 F1 H1 _ q ws v d => ?_⟩
  obtain ⟨l, q⟩ := q ws v d
  match ws, l, q with
  | [u, w, t], _, q => exact ⟨u, w, t, rfl, q⟩
end
end PyD
namespace PyD
open PySem PySem.Spec PyProof.Rows L2
section
variable {Z : Zx} {Fe : Addr → Prop} {W : WX} {X : Cx} {lv : Nat} {a b c e : Expr} {xa xb xc : Ex} {pos p1 p2 p3 cpos apos : Pos} {pins : List (Addr × Obj)} {s : Shared} {σ σ0 : L2.St} {H H0 : Hp} {F F0 : Addr → Prop} {ρ ρ0 : List Sl} {st st0 : Pot}
/-- one's own list gets new content -/
theorem StI.write {i : Nat} {ds es : List PyData} {a : Addr} {vs ws : List V} (it : StI Z Fe X.K σ ρ F H st) (hi : ρ[i]? = some (Sl.own ds)) (hσ : σ[i]? = some (some (V.ref a))) (hH : H a = some (.lst vs)) (r : Rps X.K F H ws es) :
    RelS Z.p F H F (upd H a (.lst ws)) ∧ StI Z Fe X.K σ (ρ.set i (.own es)) F (upd H a (.lst ws)) st := by
  obtain ⟨b, us, g1, g2, g3, g4, g5⟩ := it.er.own i ds hi
  rw [hσ] at g1
  cases g1
  rw [hH] at g2
  have nT := it.own i ds a hi hσ
  have kf : ∀ c o, F c → H c = some o → upd H a (.lst ws) c = some o := fun c o z q => by rw [upd_ne (fun e => g3 (by rw [← e]; exact z))]; exact q
  have hl := it.er.len
  have get : ∀ (j : Nat) (x : Sl), (ρ.set i (Sl.own es))[j]? = some x → (i = j ∧ x = .own es) ∨ (i ≠ j ∧ ρ[j]? = some x) := fun j x h => by
    by_cases hj : i = j
    · subst hj
      rw [List.getElem?_set] at h
      simp only [if_true] at h
      split at h
      · cases h
        exact .inl ⟨rfl, rfl⟩
      · cases h
    · rw [List.getElem?_set_ne hj] at h
      exact .inr ⟨hj, h⟩
  refine ⟨⟨fun _ z => z, fun c o z q _ _ => kf c o (z.elim (fun z => by cases z) id) q⟩, it.sit.write hH g4 g3 nT, ⟨by rw [List.length_set, hl], fun j x h => ?_, fun j xs h => ?_, fun j k xs ys c q1 q2 q3 q4 => ?_, fun j ks q => ?_, fun j k ks c q1 q2 q3 q4 => ?_⟩, fun j xs c q1 q2 => ?_, it.fe1, it.fe2, fun j ks c q1 q2 => ?_⟩
  · rcases get j _ h with ⟨_, z⟩ | ⟨hj, z⟩
    · cases z
    · obtain ⟨w, e1, e2⟩ := it.er.val j x z
      exact ⟨w, e1, e2.move (fun _ z => z) kf⟩
  · rcases get j _ h with ⟨z1, z⟩ | ⟨hj, z⟩
    · cases z
      subst z1
      exact ⟨a, ws, hσ, upd_same, g3, g4, r.move (fun _ z => z) kf⟩
    · obtain ⟨c, us', e1, e2, e3, e4, e5⟩ := it.er.own j xs z
      refine ⟨c, us', e1, ?_, e3, e4, e5.move (fun _ z => z) kf⟩
      rw [upd_ne (fun e => ?_)]
      · exact e2
      · subst e
        exact hj (it.er.sep i j ds xs c hi z hσ e1)
  · rcases get j _ q1 with ⟨z1, _⟩ | ⟨hj, z1⟩
    · rcases get k _ q2 with ⟨z2, _⟩ | ⟨hk, z2⟩
      · omega
      · subst z1
        exact it.er.sep i k ds ys c hi z2 q3 q4
    · rcases get k _ q2 with ⟨z2, _⟩ | ⟨hk, z2⟩
      · subst z2
        exact it.er.sep j i xs ds c z1 hi q3 q4
      · exact it.er.sep j k xs ys c z1 z2 q3 q4
  · rcases get j _ q with ⟨_, z⟩ | ⟨hj, z⟩
    · cases z
    · obtain ⟨c, us', e1, e2, e3, e4, e5⟩ := it.er.lam j ks z
      have hca : c ≠ a := fun e => by
        subst e
        exact hj (it.er.lsep j i ks c z e1 hσ (.inl ⟨ds, hi⟩)).symm
      refine ⟨c, us', e1, by rw [upd_ne hca]; exact e2, e3, e4, e5.move fun b φ q' _ => ?_⟩
      rw [upd_ne (fun e => by rw [e, hH] at q'; cases q')]
      exact q'
  · rcases get j _ q1 with ⟨_, z⟩ | ⟨hj, z⟩
    · cases z
    · refine it.er.lsep j k ks c z q2 q3 ?_
      rcases q4 with ⟨es', q4⟩ | ⟨ls, q4⟩
      · rcases get k _ q4 with ⟨k1, z2⟩ | ⟨k1, z2⟩
        · subst k1
          exact .inl ⟨ds, hi⟩
        · exact .inl ⟨es', z2⟩
      · rcases get k _ q4 with ⟨k1, z2⟩ | ⟨k1, z2⟩
        · cases z2
        · exact .inr ⟨ls, z2⟩
  · rcases get j _ q1 with ⟨z1, _⟩ | ⟨hj, z1⟩
    · subst z1
      exact it.own i ds c hi q2
    · exact it.own j xs c z1 q2
  · rcases get j _ q1 with ⟨z1, z2⟩ | ⟨hj, z1⟩
    · cases z2
    · exact it.lamn j ks c z1 q2
theorem s_app {i : Nat} {x : Str} (g : Good Z W X lv) (hN : X.N[i]? = some x) (hv : Vis X.env.scope x) (hd : (x == ("__debug__" : Str)) = false) (hcd : (x == ("__classdict__" : Str)) = false) (ha : PE X a (rdE Z W X.K X.mg xa))
    (hbase : attributeBase (.Name x p1) "append" X.env (eval (.Name x p1) X.env) = eval (.Name x p1) X.env)
    (hfew : ((backTo cpos (starEach [a] X.env)).all (fun x => !x.1) && (backToKw cpos (keywordEach [] X.env)).all (fun x => x.1.isSome) && decide ([a].length + ([] : List Keyword).length + (if ([] : List Keyword).isEmpty then 0 else 1) < 30)) = true)
    (hline : (apos.endLine == cpos.line) = true) (hs : starEach [a] X.env = (false, eval a X.env) :: starEach [] X.env) (hsw : swapsWith (.Call (.Attribute (.Name x p1) "append" apos) [a] [] cpos) none pos.line X.env = pure false) :
    PS X (.Expr (.Call (.Attribute (.Name x p1) "append" apos) [a] [] cpos) pos) (rdS Z Fe W X.K X.mg (.app i xa)) := by
  refine ⟨fun pins s σ H D I ⟨F, ρ, st, it, h⟩ => ?_⟩
  simp only [ex] at h
  split at h
  · rename_i ds hi
    obtain ⟨l, us, g1, g2, g3, g4, g5⟩ := it.er.own i ds hi
    refine (ps_expr (pe_bm PySem.F.plainAttrs_list PySem.F.slot_list_append PySem.F.type_list_append mt_append (pe_var hN hv hd hcd) (pa_cons ha pa_nil hs) hbase hfew hline hs rfl) hsw).run pins s σ H D I
      ⟨.ref l, g1, .inl ⟨rfl, us, SqL.of g2⟩, F, ρ, st, it.sit, it.er, Out.mono (OutS.bind it h) fun v st1 F1 H1 _ ⟨e1, i1, o⟩ w v1 => ?_⟩
    obtain ⟨v, k⟩ := v
    have o' : k ≠ .ow ∧ ∃ d, v = .d d ∧ OutS Z Fe W X.K X.mg F1 H1 (if ds.length < sz then .ok (.nx (ρ.set i (.own (ds ++ [d])))) st1 else .bad) D := by
      cases k with
      | ow => exact o.elim
      | cl =>
        cases v with
        | d d => exact ⟨(fun z => by cases z), d, rfl, o⟩
        | pot => exact o.elim
        | lam m => exact o.elim
        | lams m => exact o.elim
      | fr =>
        cases v with
        | d d => exact ⟨(fun z => by cases z), d, rfl, o⟩
        | pot => exact o.elim
        | lam m => exact o.elim
        | lams m => exact o.elim
    obtain ⟨hk, d, rfl, o'⟩ := o'
    split at o'
    · rename_i hz
      obtain ⟨F2, r2, i2, v2⟩ := it.clean e1 i1.sit v1 hk
      obtain ⟨l', us', k1, k2, k3, k4, k5⟩ := i2.er.own i ds hi
      rw [g1] at k1
      cases k1
      obtain ⟨r3, i3⟩ := i2.write (es := ds ++ [d]) (ws := us' ++ [w]) hi g1 k2 (k5.append (.cons v2 .nil))
      exact ⟨l, us', w, rfl, rfl, k2, by rw [k5.length, sizeLine_eq]; exact hz, o' F2 _ σ (r2.trans r3) i3⟩
    · exact o'.elim
  · exact h.elim
def rExtR : V → List V → Hp → VK → Prop := fun x vs H Q => ∃ l b xs zs, x = .ref l ∧ vs = [.ref b] ∧ H l = some (.lst xs) ∧ Rd H b (.lst zs) ∧ xs.length + zs.length ≤ sizeLine ∧ Q .non (upd H l (.lst (xs ++ zs)))
theorem mt_extR : MtR X "list.extend" rExtR := by
  intro pins s σ H x vs v us Q I rx rv h
  obtain ⟨l, b, xs, zs, rfl, rfl, hH, hB, hz, q⟩ := h
  cases rx
  obtain ⟨u, rfl, ru⟩ := rv.one
  cases ru
  obtain ⟨z, its, n, r, hl, e⟩ := I.lstM hH
  obtain ⟨z2, its2, n2, r2, e2⟩ := hB.ok I.hok
  have hl2 := r2.length
  have hsz : its.toArray.size + its2.toArray.size ≤ sizeLine := by rw [List.size_toArray, List.size_toArray]; omega
  have hlong : ¬ (!its.toArray.isEmpty && Builtin.List.listTooLong (its.toArray.size + its2.toArray.size)) = true := by
    rw [notLongL hsz, Bool.and_false]
    exact Bool.false_ne_true
  refine call_meets F.slot_list_extend ⟨_, e, rfl⟩ F.entry_list_extend (F.args_list_extend_2 _ _)
    (AutoSeq1.list_extend_list_list_0 l its.toArray n b its2.toArray n2 hlong (by rw [List.size_toArray]; omega) (by omega)) ⟨e, e2, ?_⟩
  refine ⟨.non, _, I.lset (its' := its ++ its2) hH e (by simp) (r.append r2) ?_, rfl, q⟩
  rw [List.length_append]
  omega
theorem s_ext {i : Nat} {x : Str} (g : Good Z W X lv) (hN : X.N[i]? = some x) (hv : Vis X.env.scope x) (hd : (x == ("__debug__" : Str)) = false) (hcd : (x == ("__classdict__" : Str)) = false) (ha : PE X a (rdE Z W X.K X.mg xa))
    (hbase : attributeBase (.Name x p1) "extend" X.env (eval (.Name x p1) X.env) = eval (.Name x p1) X.env)
    (hfew : ((backTo cpos (starEach [a] X.env)).all (fun x => !x.1) && (backToKw cpos (keywordEach [] X.env)).all (fun x => x.1.isSome) && decide ([a].length + ([] : List Keyword).length + (if ([] : List Keyword).isEmpty then 0 else 1) < 30)) = true)
    (hline : (apos.endLine == cpos.line) = true) (hs : starEach [a] X.env = (false, eval a X.env) :: starEach [] X.env) (hsw : swapsWith (.Call (.Attribute (.Name x p1) "extend" apos) [a] [] cpos) none pos.line X.env = pure false) :
    PS X (.Expr (.Call (.Attribute (.Name x p1) "extend" apos) [a] [] cpos) pos) (rdS Z Fe W X.K X.mg (.extd i xa)) := by
  refine ⟨fun pins s σ H D I ⟨F, ρ, st, it, h⟩ => ?_⟩
  simp only [ex] at h
  split at h
  · rename_i ds hi
    obtain ⟨l, us, g1, g2, g3, g4, g5⟩ := it.er.own i ds hi
    refine (ps_expr (pe_bm PySem.F.plainAttrs_list PySem.F.slot_list_extend PySem.F.type_list_extend mt_extR (pe_var hN hv hd hcd) (pa_cons ha pa_nil hs) hbase hfew hline hs rfl) hsw).run pins s σ H D I
      ⟨.ref l, g1, .inl ⟨rfl, us, SqL.of g2⟩, F, ρ, st, it.sit, it.er, Out.mono (OutS.bind it h) fun v st1 F1 H1 _ ⟨e1, i1, o⟩ w v1 => ?_⟩
    obtain ⟨v, k⟩ := v
    have o' : k ≠ .ow ∧ ∃ es, v = .d (.list es) ∧ OutS Z Fe W X.K X.mg F1 H1 (if ds.length + es.length ≤ sz then .ok (.nx (ρ.set i (.own (ds ++ es)))) st1 else .bad) D := by
      cases k with
      | ow => exact o.elim
      | cl =>
        cases v with
        | d d =>
          cases d with
          | list es => exact ⟨(fun z => by cases z), es, rfl, o⟩
          | none => exact o.elim
          | bool b => exact o.elim
          | int b => exact o.elim
          | str b => exact o.elim
          | tuple b => exact o.elim
          | dict b => exact o.elim
        | pot => exact o.elim
        | lam m => exact o.elim
        | lams m => exact o.elim
      | fr =>
        cases v with
        | d d =>
          cases d with
          | list es => exact ⟨(fun z => by cases z), es, rfl, o⟩
          | none => exact o.elim
          | bool b => exact o.elim
          | int b => exact o.elim
          | str b => exact o.elim
          | tuple b => exact o.elim
          | dict b => exact o.elim
        | pot => exact o.elim
        | lam m => exact o.elim
        | lams m => exact o.elim
    obtain ⟨hk, es, rfl, o'⟩ := o'
    split at o'
    · rename_i hz
      obtain ⟨F2, r2, i2, v2⟩ := it.clean e1 i1.sit v1 hk
      obtain ⟨l', us', k1, k2, k3, k4, k5⟩ := i2.er.own i ds hi
      rw [g1] at k1
      cases k1
      have v2 : Rp X.K F2 H1 w (.list es) := v2
      cases v2 with
      | @lst b zs _ q z rr =>
        obtain ⟨r3, i3⟩ := i2.write (es := ds ++ es) (ws := us' ++ zs) hi g1 k2 (k5.append rr)
        exact ⟨l, b, us', zs, rfl, rfl, k2, q, by rw [k5.length, rr.length, sizeLine_eq]; exact hz, o' F2 _ σ (r2.trans r3) i3⟩
    · exact o'.elim
  · exact h.elim
end
end PyD
namespace PyD
open PySem PySem.Spec PyProof.Rows L2
section
variable {Z : Zx} {Fe : Addr → Prop} {W : WX} {K : PySem.W.Frag} {mg : Str → Option Value} {F : Addr → Prop} {H : Hp} {σ : L2.St} {ρ : List Sl} {st : Pot} {D : Ends}
/-- the turn of a loop -/
theorem OutS.loop {r : Res Fl} {f : List Sl → Pot → Res Fl} (h : OutS Z Fe W K mg F H (r.bind fun f' st => match f' with | .nx ρ => f ρ st | .ct ρ => f ρ st | .brk ρ => .ok (.nx ρ) st | .ret v => .ok (.ret v) st) D) {N : L2.St → Hp → Prop}
    (hN : ∀ F' H' σ' ρ' st', RelS Z.p F H F' H' → StI Z Fe K σ' ρ' F' H' st' → OutS Z Fe W K mg F' H' (f ρ' st') D → N σ' H') : OutS Z Fe W K mg F H r { D with nx := N, ct := N, bk := D.nx } := by
  cases r with
  | ok g st =>
    cases g with
    | nx ρ => exact fun F' H' σ' r i => hN F' H' σ' ρ st r i (OutS.shift h r)
    | ct ρ => exact fun F' H' σ' r i => hN F' H' σ' ρ st r i (OutS.shift h r)
    | brk ρ => exact h
    | ret v => exact h
  | exc c x st => exact h
  | bad => exact h
end
section
variable {Z : Zx} {Fe : Addr → Prop} {W : WX} {X : Cx} {lv : Nat} {a b c e : Expr} {xa xb xc : Ex} {pos p1 p2 p3 cpos apos : Pos} {pins : List (Addr × Obj)} {s : Shared} {σ σ0 : L2.St} {H H0 : Hp} {F F0 : Addr → Prop} {ρ ρ0 : List Sl} {st st0 : Pot}
theorem s_for {tg iter : Expr} {body : List Stmt} {t : Tg} {xi : It} {y : Sms} (g : Good Z W X lv) (hp : PassesOwn (model X.prog X.w) X.A X.env X.xe) (hi : PI X tg iter (rdI Z W X.K X.mg xi)) (hg : PG X tg (gTg X.K t)) (hb : PSs X body (rdSs Z Fe W X.K X.mg y)) (hs : ∀ x, foldedSetIterable iter X.env x = pure x) :
    PS X (.For tg iter body [] pos) (rdS Z Fe W X.K X.mg (.for_ t xi y)) := by
  refine ⟨fun pins s σ H D I ⟨F, ρ, st, it, h⟩ => (ps_for hp g.calm hi hg hb hs).run pins s σ H D I ?_⟩
  simp only [ex] at h
  refine ⟨F, ρ, st, it.sit, it.er, Out.mono (OutS.bind it h) fun r st1 F1 H1 _ ⟨e1, i1, o⟩ J itd hsz => ?_⟩
  obtain ⟨xs, ow⟩ := r
  cases ow with
  | true => exact o.elim
  | false =>
    simp only [Bool.false_eq_true, if_false] at o
    generalize hturn : (fun x ρ st => match bindT t x ρ with
      | some ρ => exs Z.G y ρ st
      | none => .bad : PyData → List Sl → Pot → Res Fl) = turn at o
    refine ⟨fun i m σ' H' => m = xs.length - i ∧ i ≤ xs.length ∧ ∃ F2 ρ2 st2, RelS Z.p F1 H1 F2 H' ∧ StI Z Fe X.K σ' ρ2 F2 H' st2 ∧ OutS Z Fe W X.K X.mg F2 H' (forGo turn (xs.drop i) ρ2 st2) D,
      ⟨xs.length, by simp, Nat.zero_le _, F1, ρ, st1, RelF.refl, i1, by simpa using o⟩, ?_⟩
    rintro i m σ2 H2 ⟨rfl, hi, F2, ρ2, st2, r2, i2, o2⟩
    have itd2 := itd F2 H2 st2 r2 i2.sit i
    by_cases hlt : i < xs.length
    · obtain ⟨d, hd⟩ : ∃ d, xs[i]? = some d := ⟨xs[i], List.getElem?_eq_getElem hlt⟩
      have hdrop : xs.drop i = d :: xs.drop (i + 1) := by
        rw [List.drop_eq_getElem_cons hlt]
        congr 1
        rw [List.getElem?_eq_getElem hlt] at hd
        exact Option.some.inj hd
      rw [hdrop] at o2
      obtain ⟨go, step⟩ := itd2.1 d hd
      refine .inr ⟨go, fun σ' H' => ∃ F3 ρ3 st3, RelS Z.p F1 H1 F3 H' ∧ StI Z Fe X.K σ' ρ3 F3 H' st3 ∧ OutS Z Fe W X.K X.mg F3 H' (forGo turn (xs.drop (i + 1)) ρ3 st3) D, fun σ' H' nx => ⟨xs.length - (i + 1), by omega, rfl, hlt, nx⟩, fun x H3 y' => ?_⟩
      obtain ⟨F3, e3, S3, rx⟩ := step x H3 y'
      have i3 := i2.ext e3 S3
      have o2 : OutS Z Fe W X.K X.mg F2 H2 ((turn d ρ2 st2).bind fun f' st => match f' with | .nx ρ => forGo turn (xs.drop (i + 1)) ρ st | .ct ρ => forGo turn (xs.drop (i + 1)) ρ st | .brk ρ => .ok (.nx ρ) st | .ret v => .ok (.ret v) st) D := by
        have e : forGo turn (d :: xs.drop (i + 1)) ρ2 st2 = ((turn d ρ2 st2).bind fun f' st => match f' with | .nx ρ => forGo turn (xs.drop (i + 1)) ρ st | .ct ρ => forGo turn (xs.drop (i + 1)) ρ st | .brk ρ => .ok (.nx ρ) st | .ret v => .ok (.ret v) st) := rfl
        rw [← e]
        exact o2
      have r3 := r2.trans (RelF.ext (own := false) e3)
      have o3 := OutS.loop (OutS.shift o2 (RelF.ext e3)) (N := fun σ' H' => ∃ F3 ρ3 st3, RelS Z.p F1 H1 F3 H' ∧ StI Z Fe X.K σ' ρ3 F3 H' st3 ∧ OutS Z Fe W X.K X.mg F3 H' (forGo turn (xs.drop (i + 1)) ρ3 st3) D) fun F' H' σ' ρ' st' r' i' o' => ⟨F', ρ', st', r3.trans r', i', o'⟩
      rw [← hturn] at o3
      cases hb : PyD.bindT t d ρ2 with
      | none => simp only [hb] at o3; exact o3.elim
      | some ρ1 =>
        simp only [hb] at o3
        rw [hturn] at o3
        exact i3.bindT hb rx fun σ1 i4 => ⟨F3, ρ1, st2, i4, o3⟩
    · have hi' : i = xs.length := by omega
      rw [hi', List.drop_length] at o2
      exact .inl ⟨itd2.2 hi', o2 F2 H2 σ2 RelF.refl i2⟩
theorem s_whl {n : Nat} {x : Te} {body : List Stmt} {y : Sms} (hp : PassesOwn (model X.prog X.w) X.A X.env X.xe) (hc : PT X c (rdT Z W X.K X.mg x)) (hb : PSs X body (rdSs Z Fe W X.K X.mg y)) : PS X (.While c body [] pos) (rdS Z Fe W X.K X.mg (.whl n x y)) := by
  refine ⟨fun pins s σ H D I ⟨F, ρ, st, it, h⟩ => (ps_while hp hc hb).run pins s σ H D I ?_⟩
  simp only [ex] at h
  refine ⟨fun m σ' H' => ∃ F2 ρ2 st2, StI Z Fe X.K σ' ρ2 F2 H' st2 ∧ OutS Z Fe W X.K X.mg F2 H' (whlGo (fun ρ st => evT Z.G x ρ st) (fun ρ st => exs Z.G y ρ st) m ρ2 st2) D, ⟨n, F, ρ, st, it, h⟩, ?_⟩
  rintro m σ2 H2 ⟨F2, ρ2, st2, i2, o2⟩
  cases m with
  | zero => exact o2.elim
  | succ m =>
    have o2 : OutS Z Fe W X.K X.mg F2 H2 ((evT Z.G x ρ2 st2).bind fun b st => match b with
      | false => .ok (.nx ρ2) st
      | true => (exs Z.G y ρ2 st).bind fun f st => match f with
        | .nx ρ => whlGo (fun ρ st => evT Z.G x ρ st) (fun ρ st => exs Z.G y ρ st) m ρ st
        | .ct ρ => whlGo (fun ρ st => evT Z.G x ρ st) (fun ρ st => exs Z.G y ρ st) m ρ st
        | .brk ρ => .ok (.nx ρ) st
        | .ret v => .ok (.ret v) st) D := o2
    refine ⟨F2, ρ2, st2, i2.sit, i2.er, Out.mono (OutS.bind i2 o2) fun b st3 F3 H3 _ ⟨e3, i3, o3⟩ => ?_⟩
    cases b with
    | false =>
      simp only [Bool.false_eq_true, if_false]
      exact o3 F3 H3 σ2 RelF.refl i3
    | true =>
      simp only [if_true]
      refine ⟨fun σ' H' => ∃ F' ρ' st', StI Z Fe X.K σ' ρ' F' H' st' ∧ OutS Z Fe W X.K X.mg F' H' (whlGo (fun ρ st => evT Z.G x ρ st) (fun ρ st => exs Z.G y ρ st) m ρ' st') D, fun σ' H' ⟨F', ρ', st', i', o'⟩ => ⟨m, Nat.lt_succ_self m, F', ρ', st', i', o'⟩, ?_⟩
      exact ⟨F3, ρ2, st3, i3, OutS.loop o3 fun F' H' σ' ρ' st' _ i' o' => ⟨F', ρ', st', i', o'⟩⟩
/-! ### stores -/
theorem s_setI {i : Nat} {x : Str} {tpos : Pos} (g : Good Z W X lv) (hN : X.N[i]? = some x) (hv : Vis X.env.scope x) (hd : (x == ("__debug__" : Str)) = false) (hcd : (x == ("__classdict__" : Str)) = false) (ha : PE X a (rdE Z W X.K X.mg xa)) (hb : PE X b (rdE Z W X.K X.mg xb))
    (has : ∀ v, assign (.Subscript (.Name x p1) b tpos) X.env v = (do
      let ov ← holding [v] (eval (.Name x p1) X.env)
      let iv ← holding [v, ov] (eval b X.env)
      standAt tpos
      holding [v, ov, iv] (setItem ov iv v)
      release [v, ov, iv] []))
    (hs : swapsWithSole [.Subscript (.Name x p1) b tpos] a pos.line X.env = pure false) (hw : swappedStores [.Subscript (.Name x p1) b tpos] a X.env = pure none) (h1 : (assignEach [.Subscript (.Name x p1) b tpos] X.env).map (·.2) = [assign (.Subscript (.Name x p1) b tpos) X.env]) :
    PS X (.Assign [.Subscript (.Name x p1) b tpos] a pos) (rdS Z Fe W X.K X.mg (.setI i xb xa)) := by
  refine ⟨fun pins s σ H D I ⟨F, ρ, st, it, h⟩ => (ps_asg ha (pg_sub (pe_var hN hv hd hcd) hb set_list has) hs hw h1).run pins s σ H D I ?_⟩
  simp only [ex] at h
  refine ⟨F, ρ, st, it.sit, it.er, Out.mono (OutS.bind it h) fun v st1 F1 H1 _ ⟨e1, i1, o⟩ w v1 => ?_⟩
  split at o
  · rename_i ds hi
    obtain ⟨l, us, g1, g2, g3, g4, g5⟩ := i1.er.own i ds hi
    refine ⟨.ref l, g1, F1, ρ, st1, i1.sit, i1.er, Out.mono (OutS.bind (r := ev Z.G xb ρ st1) i1 o) fun y st2 F2 H2 _ ⟨e2, i2, o2⟩ w2 v2 => ?_⟩
    obtain ⟨y', ky⟩ := y
    cases y' with
    | d y =>
      obtain ⟨v, k⟩ := v
      have o' : k ≠ .ow ∧ ∃ d j, v = .d d ∧ y = .int j ∧ OutS Z Fe W X.K X.mg F2 H2 (match atD ds.length j with | some n => .ok (.nx (ρ.set i (.own (ds.set n d)))) st2 | none => .bad) D := by
        cases k with
        | ow => exact o2.elim
        | cl =>
          cases v with
          | d d =>
            cases y with
            | int j => exact ⟨(fun z => by cases z), d, j, rfl, rfl, o2⟩
            | none => exact o2.elim
            | bool b => exact o2.elim
            | list b => exact o2.elim
            | str b => exact o2.elim
            | tuple b => exact o2.elim
            | dict b => exact o2.elim
          | pot => exact o2.elim
          | lam m => exact o2.elim
          | lams m => exact o2.elim
        | fr =>
          cases v with
          | d d =>
            cases y with
            | int j => exact ⟨(fun z => by cases z), d, j, rfl, rfl, o2⟩
            | none => exact o2.elim
            | bool b => exact o2.elim
            | list b => exact o2.elim
            | str b => exact o2.elim
            | tuple b => exact o2.elim
            | dict b => exact o2.elim
          | pot => exact o2.elim
          | lam m => exact o2.elim
          | lams m => exact o2.elim
      obtain ⟨hk, d, j, rfl, rfl, o'⟩ := o'
      cases hn : atD ds.length j with
      | none => rw [hn] at o'; exact o'.elim
      | some n =>
        rw [hn] at o'
        obtain ⟨F3, r3, i3, v3⟩ := it.clean (e1.trans e2) i2.sit (v1.move i1.sit e2) hk
        obtain ⟨l', us', k1, k2, k3, k4, k5⟩ := i3.er.own i ds hi
        rw [g1] at k1
        cases k1
        obtain ⟨r4, i4⟩ := i3.write (es := ds.set n d) (ws := us'.set n w) hi g1 k2 (k5.set n v3)
        exact ⟨l, us', j, n, rfl, v2.int, k2, by rw [k5.length]; exact hn, o' F3 _ σ (r3.trans r4) i4⟩
    | pot => exact o2.elim
    | lam m => exact o2.elim
    | lams m => exact o2.elim
  · exact o.elim
/-- the pot is written -/
theorem StI.potW {q : Addr} {m n : Int} {x y : V} (it : StI Z Fe X.K σ ρ F H st) (hq : Z.p = some q) (hx : x = .int m) (hy : y = .int n) : RelS Z.p F H F (upd H q (.lst [x, y])) ∧ StI Z Fe X.K σ ρ F (upd H q (.lst [x, y])) (m, n) := by
  subst hx hy
  obtain ⟨h1, h2⟩ := it.sit.pot q hq
  have kf : ∀ c o, F c → H c = some o → upd H q (.lst [.int m, .int n]) c = some o := fun c o z e => by rw [upd_ne (fun e => h2 (by rw [← e]; exact z))]; exact e
  have ne : ∀ {b u}, H b = some u → (∀ ws, u ≠ .lst ws) → b ≠ q := fun {b u} h n e => by
    rw [e, h1] at h
    cases h
    exact n _ rfl
  refine ⟨⟨fun _ z => z, fun c o z e _ _ => kf c o (z.elim (fun z => by cases z) id) e⟩, ⟨fun q' e => ?_, fun b z => ?_, fun t ht => ?_, fun b u e np nt => ?_, fun b u e => ?_, it.sit.fe⟩, ⟨it.er.len, fun j x h => ?_, fun j ds h => ?_, it.er.sep, fun j ks h => ?_, it.er.lsep⟩, it.own, it.fe1, it.fe2, it.lamn⟩
  · rw [hq] at e
    cases e
    exact ⟨upd_same, h2⟩
  · obtain ⟨u, e1, e2⟩ := it.sit.fz b z
    exact ⟨u, kf b u z e1, e2⟩
  · obtain ⟨ps, k1, k2, k3⟩ := it.sit.tabs t ht
    refine ⟨ps, by rw [upd_ne (ne k1 (fun ws z => by cases z))]; exact k1, k2, fun pos cv hc => ?_⟩
    obtain ⟨c, e1, e2⟩ := k3 pos cv hc
    exact ⟨c, e1, by rw [upd_ne (ne e2 (fun ws z => by unfold LamX.CodeO at z; cases z))]; exact e2⟩
  · rw [upd_ne (fun z => np (by rw [hq, z]))]
    exact it.sit.ent b u e np nt
  · by_cases hb : b = q
    · rw [hb, upd_same]
      exact ⟨_, rfl⟩
    · rw [upd_ne hb]
      exact it.sit.pres b u e
  · obtain ⟨w, e1, e2⟩ := it.er.val j x h
    exact ⟨w, e1, e2.move (fun _ z => z) kf⟩
  · obtain ⟨c, us, e1, e2, e3, e4, e5⟩ := it.er.own j ds h
    refine ⟨c, us, e1, ?_, e3, e4, e5.move (fun _ z => z) kf⟩
    rw [upd_ne (fun z => e4 (by show Z.p = some c; rw [hq, z]))]
    exact e2
  · obtain ⟨c, us, e1, e2, e3, e4, e5⟩ := it.er.lam j ks h
    refine ⟨c, us, e1, ?_, e3, e4, e5.move fun b φ q' _ => ?_⟩
    · rw [upd_ne (fun z => e4 (by show Z.p = some c; rw [hq, z]))]
      exact e2
    · rw [upd_ne (fun e => by rw [e, h1] at q'; cases q')]
      exact q'
theorem pot_at {i : Nat} (it : StI Z Fe X.K σ ρ F H st) (h : ρ[i]? = some (Sl.v .pot)) : ∃ q, Z.p = some q ∧ σ[i]? = some (some (.ref q)) := by
  obtain ⟨w, e1, q, e2, e3⟩ := it.er.val i .pot h
  subst e3
  exact ⟨q, e2, e1⟩
theorem potS_inv {i : Nat} {k : Bool} {d : PyData} {D : Ends} (o : OutS Z Fe W X.K X.mg F H (match ρ[i]?, d with | some (.v .pot), .int n => (.ok (.nx ρ) (if k then (st.1, n) else (n, st.2)) : Res Fl) | _, _ => .bad) D) : ∃ n, ρ[i]? = some (Sl.v .pot) ∧ d = .int n ∧ OutS Z Fe W X.K X.mg F H (.ok (.nx ρ) (if k then (st.1, n) else (n, st.2)) : Res Fl) D := by
  split at o
  · rename_i n hi
    exact ⟨n, hi, rfl, o⟩
  · exact o.elim
theorem potD_inv {i j : Nat} {d : PyData} {D : Ends} (o : OutS Z Fe W X.K X.mg F H (match ρ[i]?, d with | some (.v .pot), .tuple [.int q, .int r] => (.ok (.nx (ρ.set j (.v (.d (.int r))))) (q, st.2) : Res Fl) | _, _ => .bad) D) :
    ∃ q r, ρ[i]? = some (Sl.v .pot) ∧ d = .tuple [.int q, .int r] ∧ OutS Z Fe W X.K X.mg F H (.ok (.nx (ρ.set j (.v (.d (.int r))))) (q, st.2) : Res Fl) D := by
  split at o
  · rename_i q r hi
    exact ⟨q, r, hi, rfl, o⟩
  · exact o.elim
theorem s_potS {i : Nat} {k : Bool} {x : Str} {jj : Nat} {tpos : Pos} (g : Good Z W X lv) (hN : X.N[i]? = some x) (hv : Vis X.env.scope x) (hd : (x == ("__debug__" : Str)) = false) (hcd : (x == ("__classdict__" : Str)) = false) (ha : PE X a (rdE Z W X.K X.mg xa))
    (has : ∀ v, assign (.Subscript (.Name x p1) (.Constant (.int (if k then 1 else 0)) jj p2) tpos) X.env v = (do
      let ov ← holding [v] (eval (.Name x p1) X.env)
      let iv ← holding [v, ov] (eval (.Constant (.int (if k then 1 else 0)) jj p2) X.env)
      standAt tpos
      holding [v, ov, iv] (setItem ov iv v)
      release [v, ov, iv] []))
    (hs : swapsWithSole [.Subscript (.Name x p1) (.Constant (.int (if k then 1 else 0)) jj p2) tpos] a pos.line X.env = pure false) (hw : swappedStores [.Subscript (.Name x p1) (.Constant (.int (if k then 1 else 0)) jj p2) tpos] a X.env = pure none)
    (h1 : (assignEach [.Subscript (.Name x p1) (.Constant (.int (if k then 1 else 0)) jj p2) tpos] X.env).map (·.2) = [assign (.Subscript (.Name x p1) (.Constant (.int (if k then 1 else 0)) jj p2) tpos) X.env]) :
    PS X (.Assign [.Subscript (.Name x p1) (.Constant (.int (if k then 1 else 0)) jj p2) tpos] a pos) (rdS Z Fe W X.K X.mg (.potS i k xa)) := by
  refine ⟨fun pins s σ H D I ⟨F, ρ, st, it, h⟩ => (ps_asg ha (pg_sub (pe_var hN hv hd hcd) pe_int set_list has) hs hw h1).run pins s σ H D I ?_⟩
  simp only [ex] at h
  refine ⟨F, ρ, st, it.sit, it.er, Out.mono (OutS.bind (r := ev Z.G xa ρ st) it h) fun v st1 F1 H1 _ ⟨e1, i1, o⟩ w v1 => ?_⟩
  obtain ⟨v, kx⟩ := v
  cases v with
  | d d =>
    obtain ⟨n, hi, ed, o2⟩ := potS_inv o
    subst ed
    obtain ⟨q, hq, hσ⟩ := pot_at i1 hi
    obtain ⟨hl, _⟩ := i1.sit.pot q hq
    have hw := v1.int
    subst hw
    cases k with
    | false =>
      obtain ⟨r2, i2⟩ := i1.potW (m := n) (n := st1.2) hq rfl rfl
      exact ⟨.ref q, hσ, q, _, 0, 0, rfl, rfl, hl, rfl, o2 F1 _ σ r2 i2⟩
    | true =>
      obtain ⟨r2, i2⟩ := i1.potW (m := st1.1) (n := n) hq rfl rfl
      exact ⟨.ref q, hσ, q, _, 1, 1, rfl, rfl, hl, rfl, o2 F1 _ σ r2 i2⟩
  | pot => exact o.elim
  | lam m => exact o.elim
  | lams m => exact o.elim
theorem s_potD {i j : Nat} {x y : Str} {jj kt : Nat} {tpos py pt : Pos} (g : Good Z W X lv) (hN : X.N[i]? = some x) (hv : Vis X.env.scope x) (hd : (x == ("__debug__" : Str)) = false) (hcd : (x == ("__classdict__" : Str)) = false) (hj : X.N[j]? = some y) (hx : Loc X.env.scope y) (hf : X.fn y = true ∨ X.env.scope.names.lookup y = some .local) (ha : PE X a (rdE Z W X.K X.mg xa))
    (has : ∀ v, assign (.Subscript (.Name x p1) (.Constant (.int 0) jj p2) tpos) X.env v = (do
      let ov ← holding [v] (eval (.Name x p1) X.env)
      let iv ← holding [v, ov] (eval (.Constant (.int 0) jj p2) X.env)
      standAt tpos
      holding [v, ov, iv] (setItem ov iv v)
      release [v, ov, iv] []))
    (hs : swapsWithSole [.Tuple [.Subscript (.Name x p1) (.Constant (.int 0) jj p2) tpos, .Name y py] kt pt] a pos.line X.env = pure false) (hw : swappedStores [.Tuple [.Subscript (.Name x p1) (.Constant (.int 0) jj p2) tpos, .Name y py] kt pt] a X.env = pure none)
    (h1 : (assignEach [.Tuple [.Subscript (.Name x p1) (.Constant (.int 0) jj p2) tpos, .Name y py] kt pt] X.env).map (·.2) = [assign (.Tuple [.Subscript (.Name x p1) (.Constant (.int 0) jj p2) tpos, .Name y py] kt pt) X.env])
    (h2 : (assignEach [.Subscript (.Name x p1) (.Constant (.int 0) jj p2) tpos, .Name y py] X.env).map (·.2) = assign (.Subscript (.Name x p1) (.Constant (.int 0) jj p2) tpos) X.env :: (assignEach [.Name y py] X.env).map (·.2))
    (h3 : (assignEach [.Name y py] X.env).map (·.2) = assign (.Name y py) X.env :: (assignEach [] X.env).map (·.2)) (hn : (assignEach [.Subscript (.Name x p1) (.Constant (.int 0) jj p2) tpos, .Name y py] X.env).length = 2) (hst : (assignEach [.Subscript (.Name x p1) (.Constant (.int 0) jj p2) tpos, .Name y py] X.env).findIdx? (·.1) = none) :
    PS X (.Assign [.Tuple [.Subscript (.Name x p1) (.Constant (.int 0) jj p2) tpos, .Name y py] kt pt] a pos) (rdS Z Fe W X.K X.mg (.potD i j xa)) := by
  refine ⟨fun pins s σ H D I ⟨F, ρ, st, it, h⟩ => (ps_asg ha (pg_tup (n := 2) g.calm (pgs_cons (pg_sub (pe_var hN hv hd hcd) pe_int set_list has) (pgs_cons (pg_name g.nd hj hx hf) pgs_nil h3) h2) hn hst) hs hw h1).run pins s σ H D I ?_⟩
  simp only [ex] at h
  refine ⟨F, ρ, st, it.sit, it.er, Out.mono (OutS.bind (r := ev Z.G xa ρ st) it h) fun v st1 F1 H1 _ ⟨e1, i1, o⟩ w v1 => ?_⟩
  obtain ⟨v, kx⟩ := v
  cases v with
  | d d =>
    obtain ⟨m, r, hi, ed, o2⟩ := potD_inv o
    subst ed
    obtain ⟨q, hq, hσ⟩ := pot_at i1 hi
    obtain ⟨hl, _⟩ := i1.sit.pot q hq
    obtain ⟨t, vs, rfl, ht, rr⟩ := v1.tupS
    cases rr with
    | cons r1 rr =>
      cases rr with
      | cons r2 rr =>
        cases rr
        cases r1
        cases r2
        obtain ⟨r3, i3⟩ := i1.potW (m := m) (n := st1.2) hq rfl rfl
        have i4 := i3.set (x := .d (.int r)) (Rp.int r) j
        exact ⟨t, _, rfl, ht, rfl, _, _, rfl, ⟨.ref q, hσ, q, _, 0, 0, rfl, rfl, hl, rfl, _, _, rfl, rfl, o2 F1 _ _ r3 i4⟩⟩
  | pot => exact o.elim
  | lam m => exact o.elim
  | lams m => exact o.elim
/-! ### raise -/
theorem s_raise {c : Nat} {C : ClS} {cp : Pos} (g : Good Z W X lv) (hc : Z.G.clss[c]? = some C) (hv : C.val = true) (hg : Gl X C.name) (ha : PE X a (rdE Z W X.K X.mg xa)) (hlv : 3 ≤ lv) (hs : starEach [a] X.env = (false, eval a X.env) :: starEach [] X.env) :
    PS X (.Raise (some (.Call (.Name C.name p1) [a] [] cp)) none pos) (rdS Z Fe W X.K X.mg (.raise c (.so xa))) := by
  obtain ⟨ad, hm, hcl⟩ := g.clss c C hc
  obtain ⟨h1, _⟩ := hcl X rfl rfl rfl rfl rfl g.calm (g.room.r.mono hlv) hg
  refine ⟨fun pins s σ H D I ⟨F, ρ, st, it, h⟩ => (ps_raise g.calm g.tk (h1 hv a _ p1 cp hs ha)).run pins s σ H D I ?_⟩
  simp only [ex] at h
  refine ⟨F, ρ, st, it.sit, it.er, Out.mono (OutS.bind it h) fun v st1 F1 H1 _ ⟨e1, i1, o⟩ w v1 d hd => ?_⟩
  obtain ⟨v, k⟩ := v
  have fin : ∀ x, v = .d x → k ≠ .ow → OutS Z Fe W X.K X.mg F1 H1 (.exc c (some x) st1 : Res Fl) D → W (.ref ad) (some d) σ (upd H1 d (.xd [(Str.ofString "value", w)])) := fun x ev hk o2 => by
    subst ev
    obtain ⟨F2, r2, i2, v2⟩ := it.clean e1 i1.sit v1 hk
    have e3 : Ext Z.p F2 H1 F2 (upd H1 d (.xd [(Str.ofString "value", w)])) := Ext.upd hd
    have i3 := i2.ext e3 (i2.sit.upd hd)
    have v3 : Rp X.K F2 (upd H1 d (.xd [(Str.ofString "value", w)])) w x := Rp.move (fun _ z => z) (fun b o _ q => by rw [upd_ne (ne_of_none q hd)]; exact q) (show Rp X.K F2 H1 w x from v2)
    exact o2 F2 _ σ (.ref ad) (some d) (r2.trans (RelF.ext e3)) i3.sit i3.fe1 i3.fe2 ⟨C, ad, hc, hm, rfl, d, w, rfl, upd_same, v3⟩
  cases v with
  | d x =>
    cases k with
    | cl => exact fin x rfl (fun z => by cases z) o
    | fr => exact fin x rfl (fun z => by cases z) o
    | ow => exact o.elim
  | pot => cases k <;> exact o.elim
  | lam m => cases k <;> exact o.elim
  | lams m => cases k <;> exact o.elim
theorem s_raise0 {c : Nat} {C : ClS} {cp : Pos} (g : Good Z W X lv) (hc : Z.G.clss[c]? = some C) (hv : C.val = false) (hg : Gl X C.name) (hlv : 3 ≤ lv) :
    PS X (.Raise (some (.Call (.Name C.name p1) [] [] cp)) none pos) (rdS Z Fe W X.K X.mg (.raise c .no)) := by
  obtain ⟨ad, hm, hcl⟩ := g.clss c C hc
  obtain ⟨_, h1⟩ := hcl X rfl rfl rfl rfl rfl g.calm (g.room.r.mono hlv) hg
  refine ⟨fun pins s σ H D I ⟨F, ρ, st, it, h⟩ => (ps_raise g.calm g.tk (h1 hv p1 cp)).run pins s σ H D I ?_⟩
  exact h F H σ (.ref ad) none RelF.refl it.sit it.fe1 it.fe2 ⟨C, ad, hc, hm, rfl, rfl⟩
end
end PyD
namespace PyD
open PySem PySem.Spec PyProof.Rows L2
/-- what is known of the globals -/
structure Glob (P : Program) (w : World) (K : PySem.W.Frag) (mg : Str → Option Value) (base : Heap) (G : GT) (Tt : List (Addr × Str)) (lvL lv : Nat) : Prop where
  fns : ∀ (i : Nat) (F : FnS), G.fns[i]? = some F → F.lv ≤ lv → FnHas P w K mg base G.clss Tt lvL F
  consts : ∀ (j : Nat) (c : Str × PyData), G.consts[j]? = some c → ∃ u w, mg c.1 = some u ∧ RelV w u ∧ Rp K (fun _ => False) nilH w c.2
  clss : ∀ (c : Nat) (C : ClS), G.clss[c]? = some C → ClsHas P w K mg base C
  frees : ∀ n ∈ G.frees, mg n = none
  bfs : ∀ b ∈ G.bfs, mg b.1 = some (.builtin b.2)
  subs : ∀ c' c b, subOf G c' c = some b → SubHas K mg G.clss c' c b
theorem start_ER {R : Rc} {F : Addr → Prop} {H : Hp} {N : List Str} : ∀ {vs : List V} {xs : List Val}, VRs R F H vs xs → ER R F H (L2.start N vs) (xs.map Sl.v ++ List.replicate (N.length - xs.length) .un) := fun {vs xs} v => by
  have hl := v.length
  have get : ∀ {vs : List V} {xs : List Val} {i : Nat} {x : Val}, VRs R F H vs xs → xs[i]? = some x → ∃ w, vs[i]? = some w ∧ VR R F H w x := by
    intro vs xs i x v
    induction v generalizing i with
    | nil => intro h; simp at h
    | cons q r ih =>
      intro h
      cases i with
      | zero =>
        have e : _ = _ := Option.some.inj h
        subst e
        exact ⟨_, rfl, q⟩
      | succ i => exact ih (by simpa using h)
  have at_ : ∀ {i : Nat} {s : Sl}, (xs.map Sl.v ++ List.replicate (N.length - xs.length) Sl.un)[i]? = some s → (∃ x, s = .v x ∧ xs[i]? = some x) ∨ s = .un := fun {i s} h => by
    by_cases hi : i < xs.length
    · rw [List.getElem?_append_left (by rw [List.length_map]; exact hi), List.getElem?_map] at h
      obtain ⟨x, e1, e2⟩ := Option.map_eq_some_iff.mp h
      exact .inl ⟨x, e2.symm, e1⟩
    · rw [List.getElem?_append_right (by rw [List.length_map]; omega)] at h
      exact .inr ((List.mem_replicate.mp (List.mem_of_getElem? h)).2)
  refine ⟨?_, fun i x h => ?_, fun i ds h => ?_, fun i j ds es a h => ?_, fun i ks h => ?_, fun i j ks a h => ?_⟩
  · unfold L2.start
    rw [List.length_append, List.length_append, List.length_map, List.length_map, List.length_replicate, List.length_replicate, hl]
  · rcases at_ h with ⟨y, e1, e2⟩ | e1
    · cases e1
      obtain ⟨w, e3, e4⟩ := get v e2
      refine ⟨w, ?_, e4⟩
      unfold L2.start
      have hi : i < vs.length := (List.getElem?_eq_some_iff.mp e3).1
      rw [List.getElem?_append_left (by rw [List.length_map]; exact hi), List.getElem?_map, e3]
      rfl
    · cases e1
  · rcases at_ h with ⟨y, e1, e2⟩ | e1 <;> cases e1
  · rcases at_ h with ⟨y, e1, e2⟩ | e1 <;> cases e1
  · rcases at_ h with ⟨y, e1, e2⟩ | e1 <;> cases e1
  · rcases at_ h with ⟨y, e1, e2⟩ | e1 <;> cases e1
theorem VR.lo {K : PySem.W.Frag} {p : Option Addr} {L L' : Ls} (e : L.l = L'.l) {F : Addr → Prop} {H : Hp} {w : V} : ∀ {x : Val}, VR ⟨K, p, L⟩ F H w x → VR ⟨K, p, L'⟩ F H w x
  | .d _, h => h
  | .pot, h => h
  | .lam m, ⟨f, h1, h2⟩ => ⟨f, h1, by show L'.l f m; rw [← e]; exact h2⟩
  | .lams ms, ⟨a, vs, h1, h2, h3, h4⟩ => ⟨a, vs, h1, h2, h3, by show LamsR L'.l vs ms; rw [← e]; exact h4⟩
theorem VRs.lo {K : PySem.W.Frag} {p : Option Addr} {L L' : Ls} (e : L.l = L'.l) {F : Addr → Prop} {H : Hp} : ∀ {ws : List V} {xs : List Val}, VRs ⟨K, p, L⟩ F H ws xs → VRs ⟨K, p, L'⟩ F H ws xs
  | _, _, .nil => .nil
  | _, _, .cons q r => .cons (q.lo e) (r.lo e)
section
variable {P : Program} {w : World} {K : PySem.W.Frag} {mg : Str → Option Value} {base : Heap} {G : GT} {Tt : List (Addr × Str)} {lvL k : Nat}
/-- a def keeps what its function says, for one pot -/
def FnGp (P : Program) (w : World) (K : PySem.W.Frag) (mg : Str → Option Value) (base : Heap) (cs : List ClS) (T : List (Addr × Str)) (lvL : Nat) (p : Option Addr) (k : Nat) (f : Addr) (fd : FuncData) (ps : List Str) (sem : List Val → Pot → Res Val) : Prop :=
  ∀ (A : Around) (outer : List Env) (s : Shared) (H : Hp) (args : Args) (us : List Value) (vs : List V) (Q : VK) (E : XK) (L : Ls) (Fz : Addr → Prop) (xs : List Val) (st : Pot),
    RoomG k A → Env0 P w K mg base A outer s H → BindsTo s fd args (ps.zip us) → Vals vs us → vs.length = ps.length →
    (∀ f m, L.l f m → LamAt P w K mg base cs T p lvL outer s H Fz f m) → Sit ⟨T, H, Fz⟩ p Fz H st → VRs ⟨K, p, L⟩ Fz H vs xs → OutF ⟨K, p, L⟩ ⟨T, H, Fz⟩ mg cs Fz H (sem xs st) Q E →
    codeAny (model P w) A (.call (.ref f) args) (CR (L2.CX P w) outer P w H s Q E) s
/-- THE RULE of a def -/
theorem fnGp_of {p : Option Addr} {x qual : Str} {params : Arguments} {body : List Stmt} {scope : Scope} {f : Addr} {fd : FuncData} {N ps : List Str} {b : Sms} {sem : List Val → Pot → Res Val} (Fd : FunD K x qual params body scope [] [] f fd) (S : FnScope N ps scope) (Gl : Glob P w K mg base G Tt lvL k)
    (hs : sem = run G N.length b) (lo : Value → Around → List Env → Shared → Hp → XK → Obj → Addr → Str → Nat → Prop)
    (hbody : ∀ (cdv : Value) (A : Around) (outer : List Env) (s : Shared) (H : Hp) (E : XK) (T : Tb) (L : Ls) (Fe : Addr → Prop) (W : WX), fd.code = cdv → T.t = Tt → L.lo = lo cdv A outer s H E → (∀ cls d σ σ' H, W cls d σ H → W cls d σ' H) → Good ⟨G, T, p, L, lvL⟩ W (cxOf (L2.CX P w) P w K mg base N qual scope f cdv A outer s H E) k →
      PassesOwn (model P w) (cxOf (L2.CX P w) P w K mg base N qual scope f cdv A outer s H E).A (cxOf (L2.CX P w) P w K mg base N qual scope f cdv A outer s H E).env (cxOf (L2.CX P w) P w K mg base N qual scope f cdv A outer s H E).xe →
      PSs (cxOf (L2.CX P w) P w K mg base N qual scope f cdv A outer s H E) body (rdSs ⟨G, T, p, L, lvL⟩ Fe W K mg b)) :
    FnGp P w K mg base G.clss Tt lvL p (k + 1) f fd ps sem := by
  subst hs
  obtain ⟨oc, od, dV, kV, doc, pm, an, cdv, ct, osl, rfl, lk, hcd, _, _⟩ := Fd.ex
  intro A outer s H args us vs Q E L Fz xs st r e0 bt rv hl hL sit vr out
  refine LamX.run_ofS lk hcd S r.r e0 bt rv hl fun hr => ⟨rdSs ⟨G, ⟨Tt, H, Fz⟩, p, ⟨L.l, lo cdv A outer s H E⟩, lvL⟩ Fz (fun cls d _ H => E cls d H) K mg b, ?_, ?_⟩
  · refine hbody cdv A outer s H E ⟨Tt, H, Fz⟩ ⟨L.l, lo cdv A outer s H E⟩ Fz (fun cls d _ H => E cls d H) rfl rfl rfl (fun _ _ _ _ _ h => h) ?_ (passes_of (X := cxOf (L2.CX P w) P w K mg base N qual scope f cdv A outer s H E) rfl)
    exact ⟨rfl, S.nd, r.deeper _, Gl.fns, Gl.consts, Gl.clss, Gl.frees, Gl.bfs, Gl.subs, takes_of (X := cxOf (L2.CX P w) P w K mg base N qual scope f cdv A outer s H E) rfl rfl rfl rfl, fun f m q => ⟨hL f m q, rfl, rfl⟩⟩
  · have hps : xs.length = vs.length := vr.length.symm
    refine ⟨Fz, xs.map Sl.v ++ List.replicate (N.length - xs.length) .un, st, ⟨sit, start_ER (VRs.lo (L := L) (L' := ⟨L.l, lo cdv A outer s H E⟩) rfl vr), fun i ds a h => ?_, fun _ z => z, fun _ z => .inl z, fun i ks a h => ?_⟩, ?_⟩
    rotate_left
    · exfalso
      by_cases hi : i < xs.length
      · rw [List.getElem?_append_left (by rw [List.length_map]; exact hi), List.getElem?_map] at h
        obtain ⟨y, _, e2⟩ := Option.map_eq_some_iff.mp h
        cases e2
      · rw [List.getElem?_append_right (by rw [List.length_map]; omega)] at h
        have := (List.mem_replicate.mp (List.mem_of_getElem? h)).2
        cases this
    rotate_left
    · exfalso
      by_cases hi : i < xs.length
      · rw [List.getElem?_append_left (by rw [List.length_map]; exact hi), List.getElem?_map] at h
        obtain ⟨y, _, e2⟩ := Option.map_eq_some_iff.mp h
        cases e2
      · rw [List.getElem?_append_right (by rw [List.length_map]; omega)] at h
        have := (List.mem_replicate.mp (List.mem_of_getElem? h)).2
        cases this
    · have ext : ∀ {F' H' st'}, Sit ⟨Tt, H, Fz⟩ p F' H' st' → (∀ a, Fz a → F' a) → (∀ a, F' a → Fz a ∨ H a = none) → Ext p Fz H F' H' := fun s a b => ⟨a, s.ent, b, s.pres⟩
      unfold OutF run at out
      cases hx : exs G b (xs.map Sl.v ++ List.replicate (N.length - xs.length) .un) st with
      | ok fl st1 =>
        rw [hx] at out
        cases fl with
        | nx ρ => exact fun F' H' σ' _ i => out F' H' .non (ext i.sit i.fe1 i.fe2) i.sit Rp.non
        | ret v => exact fun F' H' u _ s' a b' v => out F' H' u (ext s' a b') s' (VR.lo (L := ⟨L.l, lo cdv A outer s H E⟩) (L' := L) rfl v)
        | brk ρ => exact out.elim
        | ct ρ => exact out.elim
      | exc c x st1 =>
        rw [hx] at out
        exact fun F' H' σ' cls dd _ s a b' xr => out F' H' cls dd (ext s a b') s xr
      | bad =>
        rw [hx] at out
        exact out.elim
theorem fnG_of {x qual : Str} {params : Arguments} {body : List Stmt} {scope : Scope} {f : Addr} {fd : FuncData} {N ps : List Str} {b : Sms} {sem : List Val → Pot → Res Val} (Fd : FunD K x qual params body scope [] [] f fd) (S : FnScope N ps scope) (Gl : Glob P w K mg base G Tt lvL k)
    (hs : sem = run G N.length b) (lo : Value → Around → List Env → Shared → Hp → XK → Obj → Addr → Str → Nat → Prop)
    (hbody : ∀ (cdv : Value) (A : Around) (outer : List Env) (s : Shared) (H : Hp) (E : XK) (T : Tb) (p : Option Addr) (L : Ls) (Fe : Addr → Prop) (W : WX), fd.code = cdv → T.t = Tt → L.lo = lo cdv A outer s H E → (∀ cls d σ σ' H, W cls d σ H → W cls d σ' H) → Good ⟨G, T, p, L, lvL⟩ W (cxOf (L2.CX P w) P w K mg base N qual scope f cdv A outer s H E) k →
      PassesOwn (model P w) (cxOf (L2.CX P w) P w K mg base N qual scope f cdv A outer s H E).A (cxOf (L2.CX P w) P w K mg base N qual scope f cdv A outer s H E).env (cxOf (L2.CX P w) P w K mg base N qual scope f cdv A outer s H E).xe →
      PSs (cxOf (L2.CX P w) P w K mg base N qual scope f cdv A outer s H E) body (rdSs ⟨G, T, p, L, lvL⟩ Fe W K mg b)) :
    FnG P w K mg base G.clss Tt lvL (k + 1) f fd ps sem := fun A outer s H args us vs Q E p L Fz xs st => fnGp_of (p := p) Fd S Gl hs lo (fun cdv A outer s H E T L Fe W => hbody cdv A outer s H E T p L Fe W) A outer s H args us vs Q E L Fz xs st
end
end PyD
namespace PyD
open PySem PySem.Spec PyProof.Rows L2
/-- the slots of an exception in the air have the frame's length -/
theorem Takes.len {X : Cx} {W : WX} (t : Takes X W) : Takes X (fun cls d σ H => σ.length = X.N.length → W cls d σ H) := fun u s' ⟨a, B, sI, pins, σ, H, cls, d, e, I, nb, up, sky, na, os, ag, w⟩ =>
  t u s' ⟨a, B, sI, pins, σ, H, cls, d, e, I, nb, up, sky, na, os, ag, w I.len⟩
section
variable {Z : Zx} {Fe : Addr → Prop} {W : WX} {X : Cx} {lv : Nat}
theorem Good.tr (g : Good Z W X lv) {W' : WX} (pn : List (Addr × Obj)) (xe : Value → Shared → Prop) (t : Takes (X.tr pn xe) W') : Good Z W' (X.tr pn xe) lv :=
  ⟨g.calm, g.nd, g.room, g.fns, g.consts, g.clss, g.frees, g.bfs, g.subs, t, g.lam⟩
/-- what the suite wants: e's slot i, told's slot j -/
def tsV (K : PySem.W.Frag) (i j : Nat) (t : Str) (a : Addr) (cls : Value) (d : Option Addr) : TS := fun D σ H => σ[i]? = some (some (.ref a)) ∧ ∃ (C dd : Addr) (v : V) (x : PyData) (z : Str) (F : Addr → Prop), cls = .ref C ∧ XfC K C ∧ PySem.W.findIn K (.ref C) "value" = some none ∧ d = some dd ∧
  H dd = some (.xd [(Str.ofString "value", v)]) ∧ Rp K F H v x ∧ biD .repr [x] = some (.str z) ∧ ∀ p, H p = none → D.nx (σ.set j (some (.ref p))) (upd H p (.lst [.str t, .str z]))
theorem suiteV {i j : Nat} {t n y x : Str} {jj : Nat} {p1 p2 p3 p4 p5 p6 p7 pos : Pos} {a : Addr} {oe : Obj} {cls : Value} {d : Option Addr} {pn : List (Addr × Obj)} (g : Good Z W X lv) (hz : Zc cls d oe) (hf : ∃ vs, oe.data = .fields vs)
    (hi : X.N[i]? = some n) (hiv : Vis X.env.scope n) (hd : (n == ("__debug__" : Str)) = false) (hcd : (n == ("__classdict__" : Str)) = false) (hj : X.N[j]? = some y) (hy : Loc X.env.scope y) (hfn : X.fn y = true ∨ X.env.scope.names.lookup y = some .local) (hr : Blt X x (.builtin "repr"))
    (hb : attributeBase (.Name n p1) "value" X.env (eval (.Name n p1) X.env) = eval (.Name n p1) X.env)
    (h1 : starEach [.Call (.Name x p2) [.Attribute (.Name n p1) "value" p3] [] p4] X.env = (false, eval (.Call (.Name x p2) [.Attribute (.Name n p1) "value" p3] [] p4) X.env) :: starEach [] X.env)
    (h2 : starEach [.Constant (.str t) jj p5, .Call (.Name x p2) [.Attribute (.Name n p1) "value" p3] [] p4] X.env = (false, eval (.Constant (.str t) jj p5) X.env) :: starEach [.Call (.Name x p2) [.Attribute (.Name n p1) "value" p3] [] p4] X.env)
    (h3 : starEach [.Attribute (.Name n p1) "value" p3] X.env = (false, eval (.Attribute (.Name n p1) "value" p3) X.env) :: starEach [] X.env)
    (hs : swapsWith (.List [.Constant (.str t) jj p5, .Call (.Name x p2) [.Attribute (.Name n p1) "value" p3] [] p4] p6) (some (.Name y p7)) pos.line X.env = pure false) :
    PSs (X.suite a ((a, oe) :: pn)) [.Assign [.Name y p7] (.List [.Constant (.str t) jj p5, .Call (.Name x p2) [.Attribute (.Name n p1) "value" p3] [] p4] p6) pos] (tsV X.K i j t a cls d) := by
  refine ⟨fun pins s σ H D I ⟨hσ, C, dd, v, xd, z, F, e1, T, hno, e2, hH, rp, hrep, q⟩ => ?_⟩
  have pv : PE (X.suite a ((a, oe) :: pn)) (.Attribute (.Name n p1) "value" p3) (tXf a cls d C (Str.ofString "value") (tVar i)) := pe_xf T hno hz hf (pe_var (X := X.suite a ((a, oe) :: pn)) hi hiv hd hcd) hb
  have pr : PE (X.suite a ((a, oe) :: pn)) (.Call (.Name x p2) [.Attribute (.Name n p1) "value" p3] [] p4) (fun σ' H' Q => σ'[i]? = some (some (.ref a)) ∧ H' = H ∧ Q (.str z) H') := by
    refine ⟨fun pins' s' σ' H' Q I' ⟨g1, g2, g3⟩ => ?_⟩
    subst g2
    refine wpAny_Call_Name_kw (ld_B (X := X.suite a ((a, oe) :: pn)) hr I' (PyProof.Rows.callWith_builtin1 ?_ h3 rfl))
    rw [show starEach [.Attribute (.Name n p1) "value" p3] (X.suite a ((a, oe) :: pn)).env = _ from h3]
    show wpAny _ _ (spliced ((false, eval (.Attribute (.Name n p1) "value" p3) X.env) :: backTo p4 (starEach [] X.env))) _ _ s'
    refine Calls.spliced_cons (thn (pv.run pins' s' σ' H' (fun w H2 => w = v ∧ H2 = H') I' ⟨_, g1, rfl, e1, dd, _, v, e2, hH, by simp, rfl, rfl⟩) fun u s2 ⟨w, H2, I2, r2, q2, q3⟩ => Calls.spliced_nil ?_)
    subst q2 q3
    have un : X.A.units + 200 < cLine := by have := g.room.r.un; omega
    exact repr_rp (X := X.suite a ((a, oe) :: pn)) un g.room.g I2 rp r2 hrep g3
  refine (pss_one (ps_set (X := X.suite a ((a, oe) :: pn)) g.nd hj hy (pe_lst (pa_cons (pe_str (x := t)) (pa_cons pr pa_nil h1) h2)) hs hfn)).run pins s σ H D I ?_
  exact ⟨hσ, rfl, by show 2 ≤ sizeLine; decide, q⟩
theorem rep_un {n i : Nat} {x : Sl} (e : (List.replicate n Sl.un)[i]? = some x) : x = .un := (List.mem_replicate.mp (List.mem_of_getElem? e)).2
theorem rep_ER {R : Rc} {F : Addr → Prop} {H : Hp} {σ : L2.St} {n : Nat} (h : σ.length = n) : ER R F H σ (List.replicate n .un) := by
  refine ⟨by rw [List.length_replicate]; exact h, fun i x e => ?_, fun i ds e => ?_, fun i j ds es a e => ?_, fun i ks e => ?_, fun i j ks a e => ?_⟩
  · cases rep_un e
  · cases rep_un e
  · cases rep_un e
  · cases rep_un e
  · cases rep_un e
/-- try: .. except C as e: told = [text, repr(e.value)] -/
theorem s_tryV {c i j : Nat} {t n y x cn : Str} {C : ClS} {b : Sms} {body : List Stmt} {jj : Nat} {p1 p2 p3 p4 p5 p6 p7 p9 pp pos tpos : Pos} (g : Good Z W X lv) (hs : X.stack = X.env :: X.outer) (hf : X.env.frame = some X.env.locals) (hex : X.ex = []) (wc : ∀ cls d σ σ' H, W cls d σ H → W cls d σ' H)
    (hc : Z.G.clss[c]? = some C) (hcn : C.name = cn) (hgc : Gl X cn) (hdc : (cn == ("__debug__" : Str)) = false) (hij : i ≠ j)
    (hi : X.N[i]? = some n) (hil : X.env.kindOf n = some .local) (hiv : Vis X.env.scope n) (hd : (n == ("__debug__" : Str)) = false) (hcd : (n == ("__classdict__" : Str)) = false) (hj : X.N[j]? = some y) (hy : Loc X.env.scope y) (hfn : X.fn y = true ∨ X.env.scope.names.lookup y = some .local) (hr : Blt X x (.builtin "repr"))
    (hb : attributeBase (.Name n p1) "value" X.env (eval (.Name n p1) X.env) = eval (.Name n p1) X.env)
    (h1 : starEach [.Call (.Name x p2) [.Attribute (.Name n p1) "value" p3] [] p4] X.env = (false, eval (.Call (.Name x p2) [.Attribute (.Name n p1) "value" p3] [] p4) X.env) :: starEach [] X.env)
    (h2 : starEach [.Constant (.str t) jj p5, .Call (.Name x p2) [.Attribute (.Name n p1) "value" p3] [] p4] X.env = (false, eval (.Constant (.str t) jj p5) X.env) :: starEach [.Call (.Name x p2) [.Attribute (.Name n p1) "value" p3] [] p4] X.env)
    (h3 : starEach [.Attribute (.Name n p1) "value" p3] X.env = (false, eval (.Attribute (.Name n p1) "value" p3) X.env) :: starEach [] X.env)
    (hsw : swapsWith (.List [.Constant (.str t) jj p5, .Call (.Name x p2) [.Attribute (.Name n p1) "value" p3] [] p4] p6) (some (.Name y p7)) pos.line X.env = pure false)
    (hbody : ∀ (W' : WX) (pn : List (Addr × Obj)) (xe : Value → Shared → Prop), Good Z W' (X.tr pn xe) lv → PassesOwn (model X.prog X.w) X.A X.env xe → PSs (X.tr pn xe) body (rdSs Z Fe W' X.K X.mg b)) :
    PS X (.Try body [.ExceptHandler (some (.Name cn p9)) (some n) [.Assign [.Name y p7] (.List [.Constant (.str t) jj p5, .Call (.Name x p2) [.Attribute (.Name n p1) "value" p3] [] p4] p6) pos] pp] [] [] tpos)
      (rdS Z Fe W X.K X.mg (.tryV b c i j t)) := by
  obtain ⟨ca, hca, _⟩ := g.clss c C hc
  rw [hcn] at hca
  have P := ps_try_as (X := X) (Wout := W) (pos := tpos) (pos' := pp) (np := p9) (tb := fun W => rdSs Z Fe (fun cls d σ H => σ.length = X.N.length → W cls d σ H) X.K X.mg b) hs hf g.nd hi hil (c := .ref ca) ⟨hgc, hdc, .inl hca⟩ g.tk
    (fun W' pn xe tk po => hbody _ pn xe (g.tr pn xe (Takes.len tk)) po) (fun a oe cls d pn hz hfv => suiteV (i := i) (j := j) g hz hfv hi hiv hd hcd hj hy hfn hr hb h1 h2 h3 hsw)
  refine ⟨fun pins s σ H D I ⟨F, ρ, st, it, h⟩ => P.run pins s σ H D I ?_⟩
  have hlen : ρ.length = X.N.length := by rw [← it.er.len]; exact I.len
  simp only [ex] at h
  refine ⟨F, ρ, st, it, ?_⟩
  cases hx : exs Z.G b ρ st with
  | ok f st1 =>
    rw [hx] at h
    cases f with
    | nx ρ' => exact h
    | brk ρ' => exact h
    | ct ρ' => exact h
    | ret v => exact h
  | exc c' xv st1 =>
    rw [hx] at h
    simp only at h
    intro F' H' σ' cls dd rl S f1 f2 xr hl
    cases hso : subOf Z.G c' c with
    | none => rw [hso] at h; exact h.elim
    | some k =>
      rw [hso] at h
      obtain ⟨C1, C', a, a', q1, q2, q3, q4, q5, q6⟩ := g.subs c' c k hso
      obtain ⟨C'', a'', r1, r2, r3, r4⟩ := id xr
      rw [q1] at r1
      cases r1
      rw [q3] at r2
      cases r2
      subst r3
      rw [hc] at q2
      cases q2
      rw [hcn, hca] at q4
      cases q4
      refine ⟨k, q5, fun hk => ?_, fun hk => ?_⟩
      · subst hk
        simp only at h
        intro ea hea
        cases xv with
        | none => exact h.elim
        | some d =>
          simp only at h
          obtain ⟨bb, w, s1, s2, s3⟩ := r4
          cases hrep : biD .repr [d] with
          | none => rw [hrep] at h; exact h.elim
          | some zz =>
            rw [hrep] at h
            cases zz with
            | str z =>
              simp only at h
              have hiL : i < σ'.length := by rw [hl]; exact (List.getElem?_eq_some_iff.mp hi).1
              refine ⟨by rw [List.getElem?_set]; simp only [if_true]; rw [if_pos hiL], a', bb, w, d, z, F', rfl, (q6 rfl).1, (q6 rfl).2, s1, s2, s3, hrep, fun p hp => ?_⟩
              have es : ((σ'.set i (some (V.ref ea))).set j (some (V.ref p))).set i none = (σ'.set i none).set j (some (V.ref p)) := by
                rw [List.set_comm _ _ (Ne.symm hij), List.set_set]
              show D.nx (((σ'.set i (some (V.ref ea))).set j (some (V.ref p))).set i none) _
              rw [es]
              have e3 : Ext Z.p F' H' (fun b => F' b ∨ b = p) (upd H' p (.lst [.str t, .str z])) := Ext.updF hp
              have S3 := S.updF (o := .lst [.str t, .str z]) hp (fun ps z => by cases z)
              have vr : VR (rc Z X) (fun b => F' b ∨ b = p) (upd H' p (.lst [.str t, .str z])) (.ref p) (.d (.list [.str t, .str z])) := Rp.lst (.inl upd_same) (.inr rfl) (.cons (.str _) (.cons (.str _) .nil))
              refine h _ _ _ (rl.trans (RelF.ext e3)) ⟨S3, (rep_ER (R := rc Z X) (σ := σ'.set i none) (by rw [List.length_set, hl, hlen])).set vr j, fun l ds b hl1 _ => ?_, fun b zb => .inl (f1 b zb), fun b zb => zb.elim (f2 b) fun e => .inr ?_, fun l ks b hl1 _ => ?_⟩
              · by_cases hjl : j = l
                · subst hjl
                  rw [List.getElem?_set] at hl1
                  simp only [if_true] at hl1
                  split at hl1 <;> cases hl1
                · rw [List.getElem?_set_ne hjl] at hl1
                  cases rep_un hl1
              · rw [e]
                exact he_none S.pres hp
              · by_cases hjl : j = l
                · subst hjl
                  rw [List.getElem?_set] at hl1
                  simp only [if_true] at hl1
                  split at hl1 <;> cases hl1
                · rw [List.getElem?_set_ne hjl] at hl1
                  cases rep_un hl1
            | none => exact h.elim
            | bool b => exact h.elim
            | int i => exact h.elim
            | list b => exact h.elim
            | tuple b => exact h.elim
            | dict b => exact h.elim
      · subst hk
        exact wc _ _ _ _ _ (h F' H' σ' (.ref a') dd rl S f1 f2 xr)
  | bad => rw [hx] at h; exact h.elim
end
end PyD
namespace PyD
open PySem PySem.Spec PyProof.Rows L2
section
variable {Z : Zx} {Fe : Addr → Prop} {W : WX} {X : Cx} {lv : Nat} {p2 pos : Pos}
/-- x(), x a callable that was passed in -/
theorem k_callL {i : Nat} {x : Str} (g : Good Z W X lv) (hlv : Z.lvL ≤ lv) (hN : X.N[i]? = some x) (hv : Vis X.env.scope x) (hd : (x == ("__debug__" : Str)) = false) (hcd : (x == ("__classdict__" : Str)) = false) :
    PE X (.Call (.Name x p2) [] [] pos) (rdE Z W X.K X.mg (.callL i)) := by
  refine ⟨fun pins s σ H Q I ⟨Fz, ρ, st, S, E, h⟩ => ?_⟩
  simp only [ev] at h
  split at h
  · rename_i m hm
    obtain ⟨w, e1, f, rfl, hL⟩ := E.val i (.lam m) hm
    obtain ⟨q1, q2, q3⟩ := g.lam f m hL
    have la := LamAt.move q1 q2 q3 I S
    refine wpAny_Call_Name_kw (thn ((pe_var (pos := p2) hN hv hd hcd).run pins s σ H (fun v H1 => v = .ref f ∧ H1 = H) I ⟨.ref f, e1, rfl, rfl⟩) fun u s1 ⟨v, H1, I1, r1, ev, eH⟩ => ?_)
    subst ev eH
    cases r1
    have la := LamAt.move q1 q2 q3 I1 S
    obtain ⟨⟨⟨φ, hf, hφ⟩, np⟩, run⟩ := la
    obtain ⟨hφ1, _, _⟩ := I1.hok f _ hf
    obtain ⟨o, fd, ho, hdt⟩ := hφ _ hφ1
    have fa : PySem.W.FnAt f s1.heap := by
      obtain ⟨oc, od, dt, sl⟩ := o
      have hdt : dt = .func fd := hdt
      subst hdt
      exact ⟨oc, od, fd, sl, ho⟩
    refine PySem.W.callWith_F0 fa ?_
    have back : ∀ {Fz' H' st'}, Ext Z.p Fz H1 Fz' H' → Sit ⟨Z.T.t, H1, Fz⟩ Z.p Fz' H' st' → Sit Z.T Z.p Fz' H' st' := fun e s' => ⟨s'.pot, s'.fz, s'.tabs, fun a o q n t => e.keep a o (S.ent a o q n t) n t, fun a o q => let ⟨o', q'⟩ := S.pres a o q; e.there a o' q', fun a z => e.fz a (S.fe a z)⟩
    refine wpAny_call (codeAny_mono (run X.A X.stack s1 H1 Fz st Z.L Q (fun cls d H' => W cls d σ H') (g.room.mono hlv) I1.env0 Un.refl (fun a o q _ _ => q) (fun _ z => z) ⟨S.pot, S.fz, S.tabs, fun a o q _ _ => q, fun a o q => ⟨o, q⟩, fun _ z => z⟩ ?_) fun r s' hq => ?_)
    · cases hr : m st with
      | ok d st1 =>
        rw [hr] at h
        exact fun Fz' H' w e s' v => h Fz' H' e (back e s') w v
      | exc c x st1 =>
        rw [hr] at h
        exact fun Fz' H' cls dd e s' v => h Fz' H' cls dd e (back e s') v
      | bad => rw [hr] at h; exact h
    · cases r with
      | error e => exact g.tk _ _ (XE.of_call I1 (fun _ _ _ z => z) hq)
      | ok fl =>
        cases fl with
        | ret u => exact I1.after hq
        | next => exact False.elim hq
        | brk => exact False.elim hq
        | cont => exact False.elim hq
  · exact h.elim
end
end PyD
namespace PyD
open PySem PySem.Spec PyProof.Rows L2 LamX
theorem objO_ok {P : Program} {w : World} {H : Hp} {h : Heap} {f : Addr} {o : Obj} (e : h.get? f = some o) : ObjOk P w H h f (ObjO f o) := ⟨e, ⟨o, e⟩, fun h1 h2 a k => k _ a⟩
section
variable {X : Cx} {pins : List (Addr × Obj)} {σ : L2.St} {H : Hp} {s : Shared}
/-- a lambda is made: its function object is known from now on -/
theorem lam_new {T : List (Addr × Str)} {c P : Addr} {params : Arguments} {body : Expr} {scope : Scope} {pos : Pos} {E : Value → Shared → Prop} {Q : Value → Shared → Prop} (I : Inv X pins σ H s) (TB : TabB X.base X.mg c P) (hcode : X.env.code = .ref c)
    (hm : (P, X.env.qual ++ "<lambda>") ∈ T) (hu : ∀ p ∈ T, p.1 = P → p.2 = X.env.qual ++ "<lambda>") (hT : Tabs T H) (hdef : defaultsOf params X.env = ([], [])) (hfree : ∀ y ∈ scope.names, y.2 = .free → ∃ c, X.env.cells.lookup y.1 = some c)
    (h : ∀ (f c' : Addr) (pm ctv : Value) (H1 : Hp) (s' : Shared), Inv X pins σ H1 s' → ExtN H H1 → (∀ a o, H a = some o → ∃ o', H1 a = some o') → Tabs T H1 → H f = none →
      H1 f = some (ObjO f (PySem.W.kla_obj "<lambda>" (X.env.qual ++ "<lambda>") params body scope (cloFrom X.env.cells scope.names []) pm c' ctv)) → H1 c' = some (CodeO c' (X.env.qual ++ "<lambda>")) → Q (.ref f) s') :
    wpAny (model X.prog X.w) X.A (eval (.Lambda params body scope pos) X.env) Q E s := by
  obtain ⟨ps, hP, ht, ha⟩ := hT _ hm
  refine PySem.W.kla_eval hdef ?_
  have bP : s.heap.BuiltinsAt X.mg P := TB.bm.keeps I.bk
  have hP' : s.heap.get? P = some { cls := .none, data := .fields ps } := I.hok P _ hP
  cases hc : codeAmong pos ps.toList with
  | none =>
    refine PySem.W.kla_makeFunction (mg := X.mg) (c := c) (P := P) (ps := ps) (closure_ok hfree) I.ok.glob (I.mod.glob.keeps I.bk) hcode (TB.code.keeps I.bk) hP' ht hc TB.gP bP fun c' ctv h' tk hx hge hlt hrec htb => ?_
    obtain ⟨c2, oc, vs, t, e2, hoc, hd, hv⟩ := hrec
    cases e2
    have hsz : s.heap.objs.size ≤ h'.objs.size := Nat.le_trans hge (Nat.le_of_lt hlt)
    have nC : H c' = none := I.hok.fresh hge
    have nF : H h'.objs.size = none := I.hok.fresh hsz
    have I0 := inv_table (t' := tk) (more := #[rawInt pos.line, rawInt pos.col, .ref c']) (h' := h') I hP hx htb hge ⟨oc, vs, t, hoc, hd, hv⟩
    have I1 := I0.laid (t' := tk) (a := h'.objs.size) (o := ObjO h'.objs.size (PySem.W.kla_obj "<lambda>" (X.env.qual ++ "<lambda>") params body scope (cloFrom X.env.cells scope.names []) ((X.mg "__name__").getD .none) c' ctv))
      (h' := h'.push (PySem.W.kla_obj "<lambda>" (X.env.qual ++ "<lambda>") params body scope (cloFrom X.env.cells scope.names []) ((X.mg "__name__").getD .none) c' ctv)) (fun b o e => Heap.get?_push_of_some _ e) (Nat.le_refl _) (objO_ok (Heap.get?_push_size _ rfl))
    have n1 : c' ≠ h'.objs.size := Nat.ne_of_lt hlt
    have hE : ExtN H (upd (upd (upd H P (.tbl (ps ++ #[rawInt pos.line, rawInt pos.col, .ref c']))) c' (CodeO c' (X.env.qual ++ "<lambda>"))) h'.objs.size (ObjO h'.objs.size (PySem.W.kla_obj "<lambda>" (X.env.qual ++ "<lambda>") params body scope (cloFrom X.env.cells scope.names []) ((X.mg "__name__").getD .none) c' ctv))) := fun b o e n => by
      rw [upd_ne (ne_of_none e nF), upd_ne (ne_of_none e nC), upd_ne (fun z => n ps (Option.some.inj (e.symm.trans (by rw [z]; exact hP))))]
      exact e
    have eL : (ps ++ #[rawInt pos.line, rawInt pos.col, .ref c']).toList = ps.toList ++ [rawInt pos.line, rawInt pos.col, .ref c'] := by simp
    have atC : (upd (upd (upd H P (.tbl (ps ++ #[rawInt pos.line, rawInt pos.col, .ref c']))) c' (CodeO c' (X.env.qual ++ "<lambda>"))) h'.objs.size (ObjO h'.objs.size (PySem.W.kla_obj "<lambda>" (X.env.qual ++ "<lambda>") params body scope (cloFrom X.env.cells scope.names []) ((X.mg "__name__").getD .none) c' ctv))) c' = some (CodeO c' (X.env.qual ++ "<lambda>")) := by rw [upd_ne n1, upd_same]
    have atP : (upd (upd (upd H P (.tbl (ps ++ #[rawInt pos.line, rawInt pos.col, .ref c']))) c' (CodeO c' (X.env.qual ++ "<lambda>"))) h'.objs.size (ObjO h'.objs.size (PySem.W.kla_obj "<lambda>" (X.env.qual ++ "<lambda>") params body scope (cloFrom X.env.cells scope.names []) ((X.mg "__name__").getD .none) c' ctv))) P = some (.tbl (ps ++ #[rawInt pos.line, rawInt pos.col, .ref c'])) := by rw [upd_ne (ne_of_none hP nF), upd_ne (ne_of_none hP nC), upd_same]
    refine h h'.objs.size c' ((X.mg "__name__").getD .none) ctv _ _ I1 hE (fun b o e => ?_) (fun p hp => ?_) nF upd_same atC
    · by_cases hb : b = P
      · rw [hb]
        exact ⟨_, atP⟩
      · exact ⟨o, by rw [upd_ne (ne_of_none e nF), upd_ne (ne_of_none e nC), upd_ne hb]; exact e⟩
    · by_cases hb : p.1 = P
      · rw [hu p hp hb, hb]
        refine ⟨_, atP, by rw [eL]; exact PySem.TriplesOk_snoc _ _ _ _ ht, fun p' cv hcv => ?_⟩
        rw [eL] at hcv
        rcases among_app _ ht hcv with z | z
        · obtain ⟨c0, e1, e2⟩ := ha p' cv z
          exact ⟨c0, e1, hE _ _ e2 codeO_ne⟩
        · exact ⟨c', z, atC⟩
      · obtain ⟨ps', a1, a2, a3⟩ := hT p hp
        refine ⟨ps', by rw [upd_ne (ne_of_none a1 nF), upd_ne (ne_of_none a1 nC), upd_ne hb]; exact a1, a2, fun p' cv hcv => ?_⟩
        obtain ⟨c0, e1, e2⟩ := a3 p' cv hcv
        exact ⟨c0, e1, hE _ _ e2 codeO_ne⟩
  | some cv =>
    obtain ⟨c', e, hco⟩ := ha pos cv hc
    subst e
    refine PySem.W.kla_makeFunctionHit (mg := X.mg) (c := c) (P := P) (ps := ps) (closure_ok hfree) I.ok.glob (I.mod.glob.keeps I.bk) hcode (TB.code.keeps I.bk) hP' ht hc bP fun ctv h' tk hx hsz => ?_
    have nF : H h'.objs.size = none := I.hok.fresh hsz
    have I0 : Inv X pins σ H { s with heap := h', toks := tk } := I.kept hx
    have I1 := I0.laid (t' := tk) (a := h'.objs.size) (o := ObjO h'.objs.size (PySem.W.kla_obj "<lambda>" (X.env.qual ++ "<lambda>") params body scope (cloFrom X.env.cells scope.names []) ((X.mg "__name__").getD .none) c' ctv))
      (h' := h'.push (PySem.W.kla_obj "<lambda>" (X.env.qual ++ "<lambda>") params body scope (cloFrom X.env.cells scope.names []) ((X.mg "__name__").getD .none) c' ctv)) (fun b o e => Heap.get?_push_of_some _ e) (Nat.le_refl _) (objO_ok (Heap.get?_push_size _ rfl))
    have hE : ∀ b o, H b = some o → (upd H h'.objs.size (ObjO h'.objs.size (PySem.W.kla_obj "<lambda>" (X.env.qual ++ "<lambda>") params body scope (cloFrom X.env.cells scope.names []) ((X.mg "__name__").getD .none) c' ctv))) b = some o := fun b o e => by rw [upd_ne (ne_of_none e nF)]; exact e
    exact h h'.objs.size c' ((X.mg "__name__").getD .none) ctv _ _ I1 (ExtN.of hE) (fun b o e => ⟨o, hE b o e⟩) (hT.ext hE) nF upd_same (hE _ _ hco)
end
end PyD
namespace PyD
open PySem PySem.Spec PyProof.Rows L2 LamX
/-- what a def that makes lambdas stands on -/
structure LamCtx (Z : Zx) (X : Cx) : Prop where
  ex : ∃ c P, X.env.code = .ref c ∧ TabB X.base X.mg c P ∧ (P, X.env.qual ++ "<lambda>") ∈ Z.T.t ∧ ∀ p ∈ Z.T.t, p.1 = P → p.2 = X.env.qual ++ "<lambda>"
section
variable {Z : Zx} {Fe : Addr → Prop} {W : WX} {X : Cx} {lv : Nat} {pos p1 : Pos} {pins : List (Addr × Obj)} {s : Shared} {σ : L2.St} {H : Hp} {F : Addr → Prop} {ρ : List Sl} {st : Pot}
/-- the reading of a lambda's making; k its number -/
def rdLam (Z : Zx) (q : Str) (k : Nat) : TE := fun σ H Q => ∃ F st, Sit Z.T Z.p F H st ∧ ∀ f c' o H', Ext Z.p F H F H' → Sit Z.T Z.p F H' st → H f = none → Z.L.lo o c' q k → H' f = some (ObjO f o) → H' c' = some (CodeO c' q) → Q (.ref f) H'
theorem ext_N {T : Tb} {p : Option Addr} {H' : Hp} (S : Sit T p F H st) (e : ExtN H H') (th : ∀ a o, H a = some o → ∃ o', H' a = some o') (tb : Tabs T.t H') : Ext p F H F H' ∧ Sit T p F H' st := by
  refine ⟨⟨fun _ z => z, fun a o h _ t => e a o h t, fun _ z => .inl z, th⟩, fun q hq => ?_, fun a z => ?_, tb, fun a o h n t => e a o (S.ent a o h n t) t, fun a o h => ?_, S.fe⟩
  · obtain ⟨h1, h2⟩ := S.pot q hq
    exact ⟨e q _ h1 (fun ps z => by cases z), h2⟩
  · obtain ⟨o, h1, h2⟩ := S.fz a z
    exact ⟨o, e a o h1 h2, h2⟩
  · obtain ⟨o', h'⟩ := S.pres a o h
    exact th a o' h'
theorem pe_lam {params : Arguments} {body : Expr} {scope : Scope} {k : Nat} (C : LamCtx Z X) (hdef : defaultsOf params X.env = ([], [])) (hfree : ∀ y ∈ scope.names, y.2 = .free → X.env.scope.names.lookup y.1 = some .cell ∨ X.env.scope.names.lookup y.1 = some .free)
    (hlo : ∀ (pm : Value) (c' : Addr) (ctv : Value), Z.L.lo (PySem.W.kla_obj "<lambda>" (X.env.qual ++ "<lambda>") params body scope (cloFrom X.env.cells scope.names []) pm c' ctv) c' (X.env.qual ++ "<lambda>") k) :
    PE X (.Lambda params body scope pos) (rdLam Z (X.env.qual ++ "<lambda>") k) := by
  refine ⟨fun pins s σ H Q I ⟨F, st, S, h⟩ => ?_⟩
  obtain ⟨c, P, h1, h2, h3, h4⟩ := C.ex
  refine lam_new I h2 h1 h3 h4 S.tabs hdef (fun y hy e => ?_) fun f c' pm ctv H1 s' I1 e th tb nf ef ec => ?_
  · rcases hfree y hy e with z | z
    · exact I.ok.has _ (.inl z)
    · exact I.ok.has _ (.inr z)
  · obtain ⟨e1, S1⟩ := ext_N S e th tb
    exact ⟨.ref f, H1, I1, rfl, h f c' _ H1 e1 S1 nf (hlo pm c' ctv) ef ec⟩
theorem LamVs.append {lo : Obj → Addr → Str → Nat → Prop} {p : Option Addr} {H : Hp} : ∀ {vs ws : List V} {ks ls : List Nat}, LamVs lo p H vs ks → LamVs lo p H ws ls → LamVs lo p H (vs ++ ws) (ks ++ ls)
  | _, _, _, _, .nil, h => h
  | _, _, _, _, .cons a b n c m t, h => .cons a b n c m (t.append h)
theorem LamVs.length {lo : Obj → Addr → Str → Nat → Prop} {p : Option Addr} {H : Hp} : ∀ {vs : List V} {ks : List Nat}, LamVs lo p H vs ks → vs.length = ks.length
  | _, _, .nil => rfl
  | _, _, .cons _ _ _ _ _ t => by rw [List.length_cons, List.length_cons, t.length]
/-- a slot takes a list of lambdas -/
theorem StI.setLam {a : Addr} {vs : List V} {ks : List Nat} (i0 : StI Z Fe X.K σ ρ F H st) (h1 : H a = some (.lst vs)) (h2 : ¬ F a) (h3 : Z.p ≠ some a) (h4 : Z.T.he a = none) (h5 : LamVs Z.L.lo Z.p H vs ks) (i : Nat)
    (h6 : ∀ (j : Nat) s, j ≠ i → ρ[j]? = some s → isOL s → σ[j]? ≠ some (some (V.ref a))) : StI Z Fe X.K (σ.set i (some (.ref a))) (ρ.set i (.lamL ks)) F H st := by
  have hl := i0.er.len
  have get : ∀ (j : Nat) (x : Sl), (ρ.set i (Sl.lamL ks))[j]? = some x → (i = j ∧ x = .lamL ks ∧ (σ.set i (some (V.ref a)))[j]? = some (some (.ref a))) ∨ (i ≠ j ∧ ρ[j]? = some x ∧ (σ.set i (some (V.ref a)))[j]? = σ[j]?) := fun j x h => by
    by_cases hj : i = j
    · subst hj
      rw [List.getElem?_set] at h
      simp only [if_true] at h
      split at h
      · rename_i hi
        cases h
        refine .inl ⟨rfl, rfl, ?_⟩
        rw [List.getElem?_set]; simp only [if_true]; rw [if_pos (by omega)]
      · cases h
    · rw [List.getElem?_set_ne hj] at h
      exact .inr ⟨hj, h, List.getElem?_set_ne hj⟩
  refine ⟨i0.sit, ⟨by rw [List.length_set, List.length_set, hl], fun j x h => ?_, fun j es h => ?_, fun j k es es' b q1 q2 q3 q4 => ?_, fun j ls q => ?_, fun j k ls b q1 q2 q3 q4 => ?_⟩, fun j es b q1 q2 => ?_, i0.fe1, i0.fe2, fun j ls b q1 q2 => ?_⟩
  · rcases get j _ h with ⟨_, z, _⟩ | ⟨hj, z, q⟩
    · cases z
    · obtain ⟨w, e1, e2⟩ := i0.er.val j x z
      exact ⟨w, by rw [q]; exact e1, e2⟩
  · rcases get j _ h with ⟨_, z, _⟩ | ⟨hj, z, q⟩
    · cases z
    · obtain ⟨b, ws, e1, e2⟩ := i0.er.own j es z
      exact ⟨b, ws, by rw [q]; exact e1, e2⟩
  · rcases get j _ q1 with ⟨_, z, _⟩ | ⟨_, z1, r1⟩
    · cases z
    · rcases get k _ q2 with ⟨_, z, _⟩ | ⟨_, z2, r2⟩
      · cases z
      · rw [r1] at q3
        rw [r2] at q4
        exact i0.er.sep j k es es' b z1 z2 q3 q4
  · rcases get j _ q with ⟨_, z, r⟩ | ⟨hj, z, r⟩
    · cases z
      exact ⟨a, vs, r, h1, h2, h3, h5⟩
    · obtain ⟨b, ws, e1, e2⟩ := i0.er.lam j ls z
      exact ⟨b, ws, by rw [r]; exact e1, e2⟩
  · have other : ∀ (m : Nat), i ≠ m → (∃ s, ρ[m]? = some s ∧ isOL s) → σ[m]? ≠ some (some (V.ref a)) := fun m hm ⟨s, e, o⟩ => h6 m s (Ne.symm hm) e o
    rcases get j _ q1 with ⟨j1, z, r⟩ | ⟨hj, z, r⟩
    · rw [r] at q2
      cases q2
      rcases q4 with ⟨es, q4⟩ | ⟨ls', q4⟩
      · rcases get k _ q4 with ⟨_, z2, _⟩ | ⟨hk, z2, r2⟩
        · cases z2
        · rw [r2] at q3
          exact absurd q3 (other k hk ⟨_, z2, trivial⟩)
      · rcases get k _ q4 with ⟨k1, z2, _⟩ | ⟨hk, z2, r2⟩
        · omega
        · rw [r2] at q3
          exact absurd q3 (other k hk ⟨_, z2, trivial⟩)
    · rw [r] at q2
      rcases q4 with ⟨es, q4⟩ | ⟨ls', q4⟩
      · rcases get k _ q4 with ⟨_, z2, _⟩ | ⟨hk, z2, r2⟩
        · cases z2
        · rw [r2] at q3
          exact i0.er.lsep j k ls b z q2 q3 (.inl ⟨es, z2⟩)
      · rcases get k _ q4 with ⟨k1, z2, r2⟩ | ⟨hk, z2, r2⟩
        · rw [r2] at q3
          cases q3
          exact absurd q2 (other j hj ⟨_, z, trivial⟩)
        · rw [r2] at q3
          exact i0.er.lsep j k ls b z q2 q3 (.inr ⟨ls', z2⟩)
  · rcases get j _ q1 with ⟨_, z, _⟩ | ⟨hj, z, r⟩
    · cases z
    · rw [r] at q2
      exact i0.own j es b z q2
  · rcases get j _ q1 with ⟨_, z, r⟩ | ⟨hj, z, r⟩
    · rw [r] at q2
      cases q2
      exact h4
    · rw [r] at q2
      exact i0.lamn j ls b z q2
end
end PyD
namespace PyD
open PySem PySem.Spec PyProof.Rows L2 LamX
section
variable {Z : Zx} {Fe : Addr → Prop} {W : WX} {X : Cx} {lv : Nat} {pos p1 p2 py lp cpos apos : Pos} {pins : List (Addr × Obj)} {s : Shared} {σ : L2.St} {H : Hp} {F : Addr → Prop} {ρ : List Sl} {st : Pot}
theorem Sit.noext {T : Tb} {p : Option Addr} (S : Sit T p F H st) {f : Addr} {φ : Heap → Prop} (e : H f = some (.ext φ)) : p ≠ some f := fun q => by
  have h := (S.pot f q).1
  rw [e] at h; cases h
/-- x = [lambda: ..] -/
theorem s_lamNew {i k : Nat} {y : Str} {params : Arguments} {body : Expr} {scope : Scope} (g : Good Z W X lv) (C : LamCtx Z X) (hdef : defaultsOf params X.env = ([], [])) (hfree : ∀ y ∈ scope.names, y.2 = .free → X.env.scope.names.lookup y.1 = some .cell ∨ X.env.scope.names.lookup y.1 = some .free)
    (hlo : ∀ (pm : Value) (c' : Addr) (ctv : Value), Z.L.lo (PySem.W.kla_obj "<lambda>" (X.env.qual ++ "<lambda>") params body scope (cloFrom X.env.cells scope.names []) pm c' ctv) c' (X.env.qual ++ "<lambda>") k)
    (hi : X.N[i]? = some y) (hx : Loc X.env.scope y) (hf : X.fn y = true ∨ X.env.scope.names.lookup y = some .local) (hs : starEach [.Lambda params body scope p2] X.env = (false, eval (.Lambda params body scope p2) X.env) :: starEach [] X.env)
    (hsw : swapsWith (.List [.Lambda params body scope p2] lp) (some (.Name y py)) pos.line X.env = pure false) :
    PS X (.Assign [.Name y py] (.List [.Lambda params body scope p2] lp) pos) (rdS Z Fe W X.K X.mg (.lamNew i k)) := by
  refine ⟨fun pins s σ H D I ⟨F, ρ, st, it, h⟩ => (ps_set g.nd hi hx (pe_lst (pa_cons (pe_lam C hdef hfree hlo) pa_nil hs)) hsw hf).run pins s σ H D I ?_⟩
  refine ⟨F, st, it.sit, fun f c' o H' e S nf lo ef ec => ⟨by show 1 ≤ sizeLine; decide, fun p hp => ?_⟩⟩
  have i1 := it.ext e S
  have e2 : Ext Z.p F H' F (upd H' p (.lst [.ref f])) := Ext.upd hp
  have i2 := i1.ext e2 (S.upd hp)
  have h : OutS Z Fe W X.K X.mg F H (.ok (.nx (ρ.set i (.lamL [k]))) st : Res Fl) D := h
  refine h F _ _ ((RelF.ext e).trans (RelF.ext e2)) (i2.setLam upd_same (S.nofz hp) (S.nop hp) (he_none S.pres hp) (.cons lo (by rw [upd_ne (ne_of_none ef hp)]; exact ef) (S.noext ef) (by rw [upd_ne (ne_of_none ec hp)]; exact ec) (S.noext ec) .nil) i fun j sl hj e3 o3 hσ => ?_)
  cases sl with
  | own ds =>
    obtain ⟨b, ws, g1, g2, _⟩ := i1.er.own j ds e3
    rw [hσ] at g1
    cases g1
    rw [hp] at g2; cases g2
  | lamL ks =>
    obtain ⟨b, ws, g1, g2, _⟩ := i1.er.lam j ks e3
    rw [hσ] at g1
    cases g1
    rw [hp] at g2; cases g2
  | un => exact o3
  | v x => exact o3
/-- a slot is forgotten -/
theorem StI.drop (i0 : StI Z Fe X.K σ ρ F H st) (i : Nat) : StI Z Fe X.K σ (ρ.set i .un) F H st := by
  have back : ∀ {j : Nat} {x : Sl}, (ρ.set i Sl.un)[j]? = some x → x ≠ .un → i ≠ j ∧ ρ[j]? = some x := fun {j x} h n => by
    by_cases hj : i = j
    · subst hj
      rw [List.getElem?_set] at h
      simp only [if_true] at h
      split at h
      · cases h; exact absurd rfl n
      · cases h
    · rw [List.getElem?_set_ne hj] at h
      exact ⟨hj, h⟩
  refine ⟨i0.sit, ⟨by rw [List.length_set]; exact i0.er.len, fun j x h => i0.er.val j x (back h (fun z => by cases z)).2, fun j ds h => i0.er.own j ds (back h (fun z => by cases z)).2, fun j k ds es a h1 h2 => i0.er.sep j k ds es a (back h1 (fun z => by cases z)).2 (back h2 (fun z => by cases z)).2, fun j ks h => i0.er.lam j ks (back h (fun z => by cases z)).2, fun j k ks a h1 h2 h3 h4 => ?_⟩, fun j ds a h => i0.own j ds a (back h (fun z => by cases z)).2, i0.fe1, i0.fe2, fun j ks a h => i0.lamn j ks a (back h (fun z => by cases z)).2⟩
  refine i0.er.lsep j k ks a (back h1 (fun z => by cases z)).2 h2 h3 ?_
  rcases h4 with ⟨ds, h4⟩ | ⟨ls, h4⟩
  · exact .inl ⟨ds, (back h4 (fun z => by cases z)).2⟩
  · exact .inr ⟨ls, (back h4 (fun z => by cases z)).2⟩
/-- a list that no slot holds is written -/
theorem StI.writeU {a : Addr} {vs ws : List V} (it : StI Z Fe X.K σ ρ F H st) (hH : H a = some (.lst vs)) (nF : ¬ F a) (np : Z.p ≠ some a) (nT : Z.T.he a = none) (no : ∀ (j : Nat) s, ρ[j]? = some s → isOL s → σ[j]? ≠ some (some (V.ref a))) :
    RelS Z.p F H F (upd H a (.lst ws)) ∧ StI Z Fe X.K σ ρ F (upd H a (.lst ws)) st := by
  have kf : ∀ c o, F c → H c = some o → upd H a (.lst ws) c = some o := fun c o z q => by rw [upd_ne (fun e => nF (by rw [← e]; exact z))]; exact q
  refine ⟨⟨fun _ z => z, fun c o z q _ _ => kf c o (z.elim (fun z => by cases z) id) q⟩, it.sit.write hH np nF nT, ⟨it.er.len, fun j x h => ?_, fun j xs h => ?_, it.er.sep, fun j ks h => ?_, it.er.lsep⟩, it.own, it.fe1, it.fe2, it.lamn⟩
  · obtain ⟨w, e1, e2⟩ := it.er.val j x h
    exact ⟨w, e1, e2.move (fun _ z => z) kf⟩
  · obtain ⟨c, us', e1, e2, e3, e4, e5⟩ := it.er.own j xs h
    exact ⟨c, us', e1, by rw [upd_ne (fun e => no j _ h trivial (by rw [← e]; exact e1))]; exact e2, e3, e4, e5.move (fun _ z => z) kf⟩
  · obtain ⟨c, us', e1, e2, e3, e4, e5⟩ := it.er.lam j ks h
    refine ⟨c, us', e1, by rw [upd_ne (fun e => no j _ h trivial (by rw [← e]; exact e1))]; exact e2, e3, e4, e5.move fun b φ q _ => ?_⟩
    rw [upd_ne (fun e => by rw [e, hH] at q; cases q)]
    exact q
/-- x.append(lambda: ..) -/
theorem s_lamApp {i k : Nat} {y : Str} {params : Arguments} {body : Expr} {scope : Scope} (g : Good Z W X lv) (C : LamCtx Z X) (hdef : defaultsOf params X.env = ([], [])) (hfree : ∀ y ∈ scope.names, y.2 = .free → X.env.scope.names.lookup y.1 = some .cell ∨ X.env.scope.names.lookup y.1 = some .free)
    (hlo : ∀ (pm : Value) (c' : Addr) (ctv : Value), Z.L.lo (PySem.W.kla_obj "<lambda>" (X.env.qual ++ "<lambda>") params body scope (cloFrom X.env.cells scope.names []) pm c' ctv) c' (X.env.qual ++ "<lambda>") k)
    (hN : X.N[i]? = some y) (hv : Vis X.env.scope y) (hd : (y == ("__debug__" : Str)) = false) (hcd : (y == ("__classdict__" : Str)) = false)
    (hbase : attributeBase (.Name y p1) "append" X.env (eval (.Name y p1) X.env) = eval (.Name y p1) X.env)
    (hfew : ((backTo cpos (starEach [.Lambda params body scope p2] X.env)).all (fun x => !x.1) && (backToKw cpos (keywordEach [] X.env)).all (fun x => x.1.isSome) && decide (([.Lambda params body scope p2] : List Expr).length + ([] : List Keyword).length + (if ([] : List Keyword).isEmpty then 0 else 1) < 30)) = true)
    (hline : (apos.endLine == cpos.line) = true) (hs : starEach [.Lambda params body scope p2] X.env = (false, eval (.Lambda params body scope p2) X.env) :: starEach [] X.env) (hsw : swapsWith (.Call (.Attribute (.Name y p1) "append" apos) [.Lambda params body scope p2] [] cpos) none pos.line X.env = pure false) :
    PS X (.Expr (.Call (.Attribute (.Name y p1) "append" apos) [.Lambda params body scope p2] [] cpos) pos) (rdS Z Fe W X.K X.mg (.lamApp i k)) := by
  refine ⟨fun pins s σ H D I ⟨F, ρ, st, it, h⟩ => ?_⟩
  simp only [ex] at h
  split at h
  · rename_i ks hi
    split at h
    · rename_i hz
      obtain ⟨l, us, g1, g2, g3, g4, g5⟩ := it.er.lam i ks hi
      refine (ps_expr (pe_bm PySem.F.plainAttrs_list PySem.F.slot_list_append PySem.F.type_list_append mt_append (pe_var hN hv hd hcd) (pa_cons (pe_lam C hdef hfree hlo) pa_nil hs) hbase hfew hline hs rfl) hsw).run pins s σ H D I
        ⟨.ref l, g1, .inl ⟨rfl, us, SqL.of g2⟩, F, st, it.sit, fun f c' o H' e S nf lo ef ec => ?_⟩
      have i1 := it.ext e S
      obtain ⟨l', us', k1, k2, k3, k4, k5⟩ := i1.er.lam i ks hi
      rw [g1] at k1
      cases k1
      have no : ∀ (j : Nat) s, (ρ.set i .un)[j]? = some s → isOL s → σ[j]? ≠ some (some (V.ref l)) := fun j s e1 o hσ => by
        by_cases hj : i = j
        · subst hj
          rw [List.getElem?_set] at e1
          simp only [if_true] at e1
          split at e1
          · cases e1; exact o
          · cases e1
        · rw [List.getElem?_set_ne hj] at e1
          refine hj (i1.er.lsep i j ks l hi g1 hσ ?_)
          cases s with
          | own ds => exact .inl ⟨ds, e1⟩
          | lamL ls => exact .inr ⟨ls, e1⟩
          | un => exact o.elim
          | v x => exact o.elim
      obtain ⟨r2, i2⟩ := (i1.drop i).writeU (ws := us' ++ [.ref f]) k2 k3 k4 (it.lamn i ks l hi g1) no
      have up : ∀ {b φ}, H' b = some (.ext φ) → upd H' l (.lst (us' ++ [.ref f])) b = some (.ext φ) := fun {b φ} q => by rw [upd_ne (fun e => by rw [e, k2] at q; cases q)]; exact q
      have i3 := i2.setLam (ks := ks ++ [k]) upd_same k3 k4 (it.lamn i ks l hi g1) ((k5.move fun b φ q _ => up q).append (.cons lo (up ef) (S.noext ef) (up ec) (S.noext ec) .nil)) i fun j s hj e1 o => no j s e1 o
      rw [List.set_set] at i3
      have hσi : σ.set i (some (V.ref l)) = σ := by
        apply List.ext_getElem?
        intro j
        by_cases hj : i = j
        · subst hj
          rw [List.getElem?_set]
          simp only [if_true]
          rw [g1]
          have := (List.getElem?_eq_some_iff.mp g1).1
          rw [if_pos this]
        · rw [List.getElem?_set_ne hj]
      rw [hσi] at i3
      exact ⟨l, us', .ref f, rfl, rfl, k2, by rw [k5.length, sizeLine_eq]; omega, h F _ σ ((RelF.ext e).trans r2) i3⟩
    · exact h.elim
  · exact h.elim
end
end PyD
namespace PyD
open PySem PySem.Spec PyProof.Rows L2 LamX
/-- a lambda of a def -/
structure LamD where
  params : Arguments
  body : Expr
  scope : Scope
/-- what stands for the lambdas of a def, by their numbers -/
def loOf (lams : List LamD) (X : Cx) : Obj → Addr → Str → Nat → Prop := fun o c q k => ∃ l pm ctv, lams[k]? = some l ∧ q = X.env.qual ++ "<lambda>" ∧
  o = PySem.W.kla_obj "<lambda>" q l.params l.body l.scope (cloFrom X.env.cells l.scope.names []) pm c ctv
abbrev noL : Ls := ⟨fun _ _ => False, fun _ _ _ _ => False⟩
section
variable {R : Rc} {F F' : Addr → Prop} {H H' : Hp} {σ : L2.St} {ρ : List Sl}
theorem ER.lam_ (E : ER R F H σ ρ) {L' : Ls} (f : ∀ a, F a → F' a) (k : ∀ a o, F a → H a = some o → H' a = some o) : ER ⟨R.K, R.p, L'⟩ F' H' σ (ρ.map dropL) := by
  have back : ∀ {i : Nat} {x : Sl}, (ρ.map dropL)[i]? = some x → x ≠ .un → ρ[i]? = some x ∧ ((∃ d, x = .v (.d d)) ∨ x = .v .pot) := fun {i x} h n => by
    rw [List.getElem?_map] at h
    obtain ⟨y, e1, e2⟩ := Option.map_eq_some_iff.mp h
    cases y with
    | un => exact absurd e2.symm n
    | own ds => exact absurd e2.symm n
    | lamL ks => exact absurd e2.symm n
    | v z =>
      cases z with
      | lam m => exact absurd e2.symm n
      | lams m => exact absurd e2.symm n
      | d d => cases e2; exact ⟨e1, .inl ⟨d, rfl⟩⟩
      | pot => cases e2; exact ⟨e1, .inr rfl⟩
  refine ⟨by rw [List.length_map]; exact E.len, fun i x h => ?_, fun i ds h => ?_, fun i j ds es a h => ?_, fun i ks h => ?_, fun i j ks a h => ?_⟩
  · obtain ⟨h1, h2⟩ := back h (fun z => by cases z)
    obtain ⟨w, e1, e2⟩ := E.val i x h1
    refine ⟨w, e1, ?_⟩
    rcases h2 with ⟨d, h2⟩ | h2
    · cases h2
      exact Rp.move f k e2
    · cases h2
      exact e2
  · obtain ⟨_, ⟨d, h⟩ | h⟩ := back h (fun z => by cases z) <;> cases h
  · obtain ⟨_, ⟨d, h⟩ | h⟩ := back h (fun z => by cases z) <;> cases h
  · obtain ⟨_, ⟨d, h⟩ | h⟩ := back h (fun z => by cases z) <;> cases h
  · obtain ⟨_, ⟨d, h⟩ | h⟩ := back h (fun z => by cases z) <;> cases h
end
section
variable {Z : Zx} {X : Cx} {pins : List (Addr × Obj)} {σ : L2.St} {H : Hp} {s : Shared} {F : Addr → Prop} {ρ : List Sl} {st : Pot}
/-- a lambda may be called, from every state behind its making -/
theorem lamAt_of {lv : Nat} {f c' : Addr} {q : Str} {o : Obj} {l : LamD} {pm ctv : Value} {x : Ex} (I : Inv X pins σ H s) (S : Sit Z.T Z.p F H st) (E : ER (rc Z X) F H σ ρ) (LS : LamS X.env.scope l.scope)
    (hq : q = X.env.qual ++ "<lambda>") (ho : o = PySem.W.kla_obj "<lambda>" q l.params l.body l.scope (cloFrom X.env.cells l.scope.names []) pm c' ctv) (hf : H f = some (ObjO f o)) (np : Z.p ≠ some f) (hc : H c' = some (CodeO c' q)) (npc : Z.p ≠ some c')
    (hbind : ∀ (q : Str) (cl : List (Str × Addr)) (pm cv ctv : Value), bindArgs (PySem.W.kla_fn "<lambda>" q l.params l.body l.scope cl pm cv ctv) ⟨[], []⟩ = pure [])
    (hbody : ∀ (A : Around) (outer : List Env) (s : Shared) (H : Hp) (E : XK) (T : Tb) (W : WX), T.t = Z.T.t → RoomG lv (A.deeper (lamEnv X l.scope s.heap.objs.size f c')) → Takes (lamCx X A outer s H E l.scope f c') W → PE (lamCx X A outer s H E l.scope f c') l.body (rdE ⟨Z.G, T, Z.p, noL, Z.lvL⟩ W X.K X.mg x)) :
    LamAt X.prog X.w X.K X.mg X.base Z.G.clss Z.T.t Z.p (lv + 1) X.stack s H F f (fun st => lamOf (ev Z.G x (ρ.map dropL) st)) := by
  subst hq ho
  have hex : ∀ h : Heap, h.get? f = some (PySem.W.kla_obj "<lambda>" (X.env.qual ++ "<lambda>") l.params l.body l.scope (cloFrom X.env.cells l.scope.names []) pm c' ctv) → ∃ o fd, h.get? f = some o ∧ o.data = .func fd := fun h e => ⟨_, _, e, rfl⟩
  refine ⟨⟨⟨_, hf, hex⟩, np⟩, fun A outer' s1 H1 Fz1 st1 L Q E1 r e0 un k kz S1 out => ?_⟩
  have hf1 := k f _ hf np (fun ps z => by cases z)
  have hc1 := k c' _ hc npc (fun ps z => by cases z)
  have of1 : s1.heap.get? f = some _ := (e0.hok f _ hf1).1
  obtain ⟨⟨oc, vs, t, hoc, hdc, hvc⟩, _, _⟩ := e0.hok c' _ hc1
  have lim : s1.heap.NoLimit := e0.mod.nolimit.keeps fun b o e => (e0.bs b o e).1
  refine PySem.W.kla_callFunE r.r.depth of1 rfl LS.co LS.gen rfl ⟨c', oc, vs, t, rfl, hoc, hdc, hvc⟩ ?_
  rw [hbind]
  refine wpAny_pure (wpAny_newFunctionEnv (fun y hy => (LS.own y hy).2) (fun y hy => absurd hy (by simp)) (fun h₁ hns hsb => ⟨lim.fresh _ hsb, ?_⟩) LS.kind)
  show codeAny _ _ (.expr l.body (lamEnv X l.scope s1.heap.objs.size f c')) _ _
  have kp : ∀ b o, s1.heap.get? b = some o → h₁.get? b = some o := fun b o e => hsb.extBut b o (Nat.ne_of_lt (Heap.lt_size e)) (Heap.get?_push_of_some _ e)
  have J : Inv (lamCx X A outer' s1 H1 E1 l.scope f c') [] σ H1 { s1 with heap := h₁, toks := s1.toks + ([] : List (Str × Value)).length } := lam_start2 I LS e0 r.r.hd un hns kp
  have tk : Takes (lamCx X A outer' s1 H1 E1 l.scope f c') (fun cls d _ H => E1 cls d H) := takes_of rfl rfl rfl rfl
  have keepH : ∀ a o, F a → H a = some o → H1 a = some o := fun a o z h => by
    obtain ⟨o', h', nt⟩ := S.fz a z
    rw [h] at h'
    cases h'
    exact k a o h (fun q => (S.pot a q).2 z) nt
  have E2 : ER ⟨X.K, Z.p, noL⟩ Fz1 H1 σ (ρ.map dropL) := E.lam_ kz keepH
  refine PySem.W.kla_codeExpr (wpAny_mono ((hbody A outer' s1 H1 E1 ⟨Z.T.t, H1, Fz1⟩ _ rfl (r.deeper _) tk).run [] _ _ H1 Q J ⟨Fz1, ρ.map dropL, st1, S1, E2, ?_⟩) (fun v s' hq => ?_) fun e s' hq => hq)
  · show Out _ _ _ _ _ _ _ (ev Z.G x (ρ.map dropL) st1) _
    have out : OutF ⟨X.K, Z.p, L⟩ ⟨Z.T.t, H1, Fz1⟩ X.mg Z.G.clss Fz1 H1 ((lamOf (ev Z.G x (ρ.map dropL) st1)).bind fun d st => .ok (.d d) st) Q E1 := out
    cases hx : ev Z.G x (ρ.map dropL) st1 with
    | ok a st2 =>
      rw [hx] at out
      intro Fz2 H2 e2 S2 w vt
      obtain ⟨a, kk⟩ := a
      cases a with
      | d d =>
        cases kk with
        | cl => exact out Fz2 H2 w e2 S2 vt
        | fr =>
          obtain ⟨F3, f3, v3⟩ := VT.clean S2 vt (fun z => by cases z)
          exact out F3 H2 w (f3.ext e2) f3.sit v3
        | ow => exact out.elim
      | pot => exact out.elim
      | lam m => exact out.elim
      | lams m => exact out.elim
    | exc c x st2 =>
      rw [hx] at out
      exact fun Fz2 H2 cls dd e2 S2 xr => out Fz2 H2 cls dd e2 S2 xr
    | bad => rw [hx] at out; exact out.elim
  · obtain ⟨w', H', J', rv, q⟩ := hq
    exact ⟨w', H', J'.os, J'.bare, J'.base, J'.hok, rv, q⟩
end
end PyD
namespace PyD
open PySem PySem.Spec PyProof.Rows L2 LamX
section
variable {X : Cx}
/-- a block's element is told what the def knows, too -/
structure EltK (X : Cx) (pins : List (Addr × Obj)) (σ : L2.St) (scope : Scope) (elt : Expr) (te : TE) : Prop where
  run : ∀ (s3 : Shared) (H3 : Hp) (C : Addr) (cl : List (Str × Addr)) (fp : List Addr) (pn : List (Addr × Obj)) (s9 : Shared) (σ9 : L2.St) (H9 : Hp) (Q : VK), (∀ (pn : List (Addr × Obj)) (σ' : L2.St) (H' : Hp) (s' : Shared), Inv (X.blk s3 H3 scope (compEnvC scope cl C X.env) fp) pn σ' H' s' → Inv X pins σ H' s') →
    Inv (X.blk s3 H3 scope (compEnvC scope cl C X.env) fp) pn σ9 H9 s9 → te σ9 H9 Q →
    wpAny (model X.prog X.w) X.A (eval elt (compEnvC scope cl C X.env)) (EP (X.blk s3 H3 scope (compEnvC scope cl C X.env) fp) pn σ9 Q) (fun _ _ => False) s9
/-- [elt for tg in iter], the element told so -/
theorem lc_K {pins : List (Addr × Obj)} {s : Shared} {σ : L2.St} {H : Hp} {Q : VK} {elt tg iter : Expr} {scope : Scope} {own : List (Str × Nat)} {pos : Pos} {wi : TI} {g : TG} {te : TE} (hc : X.calm = true) (hN : X.N.Nodup) (I : Inv X pins σ H s) (hi : PI X tg iter wi) (ok : BlkOk X.N X.env.scope scope own)
    (hg : ∀ (s : Shared) (H : Hp) (C : Addr) (cl : List (Str × Addr)) (fp : List Addr), PG (X.blk s H scope (compEnvC scope cl C X.env) fp) tg g) (he : EltK X pins σ scope elt te) (hs : ∀ x, foldedSetIterable iter X.env x = pure x) (h : tLc wi g tYes te (own.map (·.2)) σ H Q) :
    wpAny (model X.prog X.w) X.A (eval (.ListComp elt [⟨tg, iter, [], 0⟩] scope pos) X.env) (EP X pins σ Q) X.xe s := by
  rw [eval_ListComp]
  have hfree : ∀ y ∈ scope.names, y.2 = .free → ∃ c, X.env.cells.lookup y.1 = some c := fun y hy e => I.ok.has _ (ok.free y hy e)
  refine wpAny_comprehension_free (use := none) rfl hs (closure_ok hfree) ok.kind (fun y hy e => by rw [ok.uniq y hy, e]) (thn (hi.run pins s σ H _ I h) fun xv s1 hx => thn hx fun itv s2 ⟨it, fp, tn, J, H2, e2, I2, T, st2, f2, q⟩ => ?_)
  subst e2
  refine wpAny_newObj_type (newEnv_comp ?_) (by show 0 ≤ sizeLine; decide)
  obtain ⟨D, hD⟩ : ∃ D, s2.heap.objs.size = D := ⟨_, rfl⟩
  rw [hD]
  have hDn : H2 D = none := I2.hok.fresh (Nat.le_of_eq hD)
  obtain ⟨W, ⟨m0, w0⟩, turn⟩ := q D hDn
  obtain ⟨s3, hs3⟩ : ∃ s3 : Shared, ({ s2 with heap := s2.heap.push { cls := .type "list", data := .seq ([] : List Value).toArray } } : Shared) = s3 := ⟨_, rfl⟩
  have h3 : s3.heap = s2.heap.push { cls := .type "list", data := .seq ([] : List Value).toArray } := by subst hs3; rfl
  have I3 : Inv X pins σ (upd H2 D (.lst [])) s3 := by
    subst hs3
    refine I2.laid (t' := s2.toks) (fun b o e => Heap.get?_push_of_some _ e) (Nat.le_of_eq hD) ⟨Nat.zero_le _, [], 0, .nil, ?_⟩
    subst hD
    exact Heap.get?_push_size _ rfl
  rw [hs3]
  have f3 : ∀ b ∈ fp, FpOk X pins (upd H2 D (.lst [])) b ∧ b < s3.heap.objs.size := fun b hb => by
    obtain ⟨o, e, _⟩ := T.obj _ _ st2 b hb
    have hlt := Heap.lt_size e
    exact ⟨⟨by rw [upd_ne (fun z => by rw [z, ← hD] at hlt; exact Nat.lt_irrefl _ hlt)]; exact (f2 b hb).1, (f2 b hb).2⟩, by rw [h3, Heap.size_push]; exact Nat.lt_succ_of_lt hlt⟩
  have st3 : tn 0 s3.heap := T.keep _ _ _ st2 fun b _ o e => (by rw [h3]; exact Heap.get?_push_of_some _ e)
  have I4 := block_start I3 ok hN f3
  have run := he.run s3 (upd H2 D (.lst [])) s3.heap.objs.size (cellsFrom (s3.heap.objs.size + 1) scope.names (cloFrom X.env.cells scope.names [])) fp
  have asg := hg s3 (upd H2 D (.lst [])) s3.heap.objs.size (cellsFrom (s3.heap.objs.size + 1) scope.names (cloFrom X.env.cells scope.names [])) fp
  obtain ⟨ce, hce⟩ : ∃ ce, compEnvC scope (cellsFrom (s3.heap.objs.size + 1) scope.names (cloFrom X.env.cells scope.names [])) s3.heap.objs.size X.env = ce := ⟨_, rfl⟩
  have cL : ce.locals = s3.heap.objs.size := by subst hce; rfl
  obtain ⟨H3, hH3⟩ : ∃ H3, upd H2 D (.lst []) = H3 := ⟨_, rfl⟩
  rw [hH3] at I3 I4 asg run w0 f3
  rw [hce] at I4 asg run
  obtain ⟨s4, hs4⟩ : ∃ s4 : Shared, ({ s3 with heap := pushCells (s3.heap.push { cls := .type "dict", data := .dict #[] }) scope.names } : Shared) = s4 := ⟨_, rfl⟩
  rw [hs4] at I4
  have nfp : ∀ b ∈ fp, H3 b = none := fun b hb => (f3 b hb).1.1
  have st4 : tn 0 s4.heap := T.keep _ _ _ st3 fun b _ o e => (by subst hs4; exact pushCells_keeps _ _ _ _ (Heap.get?_push_of_some _ e))
  have stat : ∀ {σ' : L2.St} {H' : Hp} {s' : Shared}, Inv (X.blk s3 H3 scope ce fp) [] σ' H' s' → (∀ b ∈ fp, H' b = none) → ∀ b ∈ fp, FpOk (X.blk s3 H3 scope ce fp) [] H' b := fun {σ' H' s'} I' hn b hb =>
    ⟨hn b hb, (I'.ok.exf b hb).1, I'.ok.exfs b hb, .inl hb, fun x c e => (I'.ok.exf b hb).2 x c e, fun p hp => by cases hp⟩
  -- what the def knows, wherever the block stands
  have out : ∀ {pn : List (Addr × Obj)} {σ' : L2.St} {H' : Hp} {s' : Shared}, Inv (X.blk s3 H3 scope ce fp) pn σ' H' s' → Inv X pins σ H' s' := fun {pn σ' H' s'} I' => by
    refine I3.call' (ch := fp) I'.os I'.base I'.hok I'.bare fun b hb => ?_
    obtain ⟨_, a1, _, a3, a4, a5⟩ := (f3 b hb).1
    exact ⟨a3, a1, a4, a5⟩
  have loop : codeAny (model X.prog X.w) X.A (.compLoop (.ListComp elt [⟨tg, iter, [], 0⟩] scope pos) 0 (.ref it) (.ref D) ce) (compPost (model X.prog X.w) X.A X.xe none (EP X pins σ Q) (.ref D) s3.heap.objs.size) s4 := by
    refine compLoop_any (fun n s' => ∃ i H', Inv (X.blk s3 H3 scope ce fp) [] (wipe σ (own.map (·.2))) H' s' ∧ tn i s'.heap ∧ (∀ b ∈ fp, H' b = none) ∧ W i n H') (fun n s5 ⟨i, H5, I5, st5, n5, w5⟩ => ?_) m0 ⟨0, H3, I4, st4, nfp, w0⟩
    rcases turn i n H5 w5 with ⟨stop, qq⟩ | ⟨go, Nx, hNx, step⟩
    · refine thnF (T.done (X.blk s3 H3 scope ce fp) rfl rfl rfl hc i [] s5 _ H5 (fun _ _ => False) I5 (stat I5 n5) st5 stop) fun r s6 ⟨hr, I6⟩ => ?_
      subst hr
      have nC : H5 s3.heap.objs.size = none := by rw [← cL]; exact I6.free
      obtain ⟨m, hn, _⟩ := I6.loc
      have hn : s6.heap.Ns ce.locals m := hn
      rw [cL] at hn
      obtain ⟨p0, p1, p2, p3, p4, p5⟩ := I3.fpOk (Nat.le_refl _) nC
      exact ⟨m, hn, fun h'' sb => ⟨.ref D, H5, (out I6).turned (t' := s6.toks) (fun b o hb e => (sb.2 b hb).trans e) p0 p1 p3 p4 p5, rfl, qq⟩⟩
    · refine thnF (T.item (X.blk s3 H3 scope ce fp) rfl rfl rfl hc i [] s5 _ H5 (fun _ _ => False) I5 (stat I5 n5) st5 go) fun r s6 ⟨u, hr, h6⟩ => ?_
      subst hr
      refine thnF h6 fun _ s7 ⟨x, H7, I7, r7, y7, st7, n7⟩ => ?_
      have I7' := I7.pinned (stat I7 n7) (T.obj _ _ st7)
      refine thnF (asg.run _ s7 _ H7 x u _ I7' r7 (step x H7 y7)) fun _ s8 ⟨σ8, H8, I8, hw8, q8⟩ => ?_
      refine thnF ((pts_nil (X := X.blk s3 H3 scope ce fp)).run _ s8 σ8 H8 _ I8 q8) fun b s9 ⟨H9, I9, q9⟩ => ?_
      have fin : ∀ {s' : Shared} {H' : Hp}, Inv (X.blk s3 H3 scope ce fp) ([] ++ pinsAt fp s7.heap) σ8 H' s' → Nx H' → ∃ m, m < n ∧ ∃ i H', Inv (X.blk s3 H3 scope ce fp) [] (wipe σ (own.map (·.2))) H' s' ∧ tn i s'.heap ∧ (∀ b ∈ fp, H' b = none) ∧ W i m H' := fun {s' H'} I' nx => by
        obtain ⟨m', hm, w'⟩ := hNx H' nx
        have pin' : ∀ b ∈ fp, ∀ o, s7.heap.get? b = some o → s'.heap.get? b = some o ∧ H' b = none := fun b hb o e => by
          obtain ⟨z1, z2, _⟩ := I'.pin (b, o) (List.mem_append_right _ (List.mem_append_right _ (mem_pinsAt hb e)))
          exact ⟨z1, z2⟩
        have hl : (wipe σ (own.map (·.2))).length = σ8.length := (by rw [← hw8, wipe_length])
        refine ⟨m', hm, i + 1, H', (I'.unpinned (pins := [])).weak hl (fun j v e => (by rw [← hw8] at e; exact (wipe_some e).1)), T.keep _ _ _ st7 fun b hb o e => (pin' b hb o e).1, fun b hb => ?_, w'⟩
        obtain ⟨o, e, _⟩ := T.obj _ _ st7 b hb
        exact (pin' b hb o e).2
      cases b with
      | false => exact fin I9 (by simpa using q9)
      | true =>
        simp only [if_true] at q9 ⊢
        refine thnF (run _ s9 σ8 H9 _ (fun pn σ' H' s' I' => out I') I9 q9) fun z s10 ⟨yv, H10, I10, r10, acc, hD10, hz10, nx⟩ => ?_
        exact app_ok (X := X.blk s3 H3 scope ce fp) I10 hD10 hz10 r10 fun s11 I11 => fin I11 nx
  show codeAny _ _ (.compStart (.ListComp elt [⟨tg, iter, [], 0⟩] scope pos) 0 (.ref it) (.ref D) (compEnvC scope (cellsFrom (s3.heap.objs.size + 1) scope.names (cloFrom X.env.cells scope.names [])) s3.heap.objs.size X.env)) (compPost (model X.prog X.w) X.A X.xe none (EP X pins σ Q) (.ref D) s3.heap.objs.size) { s3 with heap := pushCells (s3.heap.push { cls := .type "dict", data := .dict #[] }) scope.names }
  rw [hce, hs4]
  exact codeAny_compStart_list loop (T.self X.A 0 _ _ _ st4 loop)
end
end PyD
namespace PyD
open PySem PySem.Spec PyProof.Rows L2 LamX
section
variable {Z : Zx} {W : WX} {X : Cx} {lv : Nat} {pins : List (Addr × Obj)} {s : Shared} {σ : L2.St} {H : Hp} {F : Addr → Prop} {ρ : List Sl} {st : Pot}
/-- a lambda: its body is read -/
structure LamOk1 (Z : Zx) (X : Cx) (lv : Nat) (l : LamD) (x : Ex) : Prop where
  ls : LamS X.env.scope l.scope
  bd : ∀ (q : Str) (cl : List (Str × Addr)) (pm cv ctv : Value), bindArgs (PySem.W.kla_fn "<lambda>" q l.params l.body l.scope cl pm cv ctv) ⟨[], []⟩ = pure []
  run : ∀ (f c' : Addr) (A : Around) (outer : List Env) (s : Shared) (H : Hp) (E : XK) (T : Tb) (W : WX), T.t = Z.T.t → RoomG lv (A.deeper (lamEnv X l.scope s.heap.objs.size f c')) → Takes (lamCx X A outer s H E l.scope f c') W →
      PE (lamCx X A outer s H E l.scope f c') l.body (rdE ⟨Z.G, T, Z.p, noL, Z.lvL⟩ W X.K X.mg x)
/-- the lambdas of a def: each body is read -/
structure LamOk (Z : Zx) (X : Cx) (lv : Nat) (lams : List LamD) (es : Exs) : Prop where
  ok : ∀ (k : Nat) (l : LamD), lams[k]? = some l → ∃ x, (∀ ρ st, evNth Z.G es k ρ st = ev Z.G x ρ st) ∧ LamOk1 Z X lv l x
theorem lamAt_lo {lvb : Nat} {lams : List LamD} {es : Exs} {f c' : Addr} {q : Str} {o : Obj} {k : Nat} (I : Inv X pins σ H s) (S : Sit Z.T Z.p F H st) (E : ER (rc Z X) F H σ ρ) (L : LamOk Z X lvb lams es) (hL : Z.lvL = lvb + 1) (hlo : loOf lams X o c' q k) (hf : H f = some (ObjO f o)) (np : Z.p ≠ some f)
    (hc : H c' = some (CodeO c' q)) (npc : Z.p ≠ some c') : LamAt X.prog X.w X.K X.mg X.base Z.G.clss Z.T.t Z.p Z.lvL X.stack s H F f (fun st => lamOf (evNth Z.G es k (ρ.map dropL) st)) := by
  obtain ⟨l, pm, ctv, h1, h2, h3⟩ := hlo
  obtain ⟨x, hx, LS, hb, run⟩ := L.ok k l h1
  have e : (fun st => lamOf (evNth Z.G es k (ρ.map dropL) st)) = fun st => lamOf (ev Z.G x (ρ.map dropL) st) := funext fun st => (by rw [hx])
  rw [e, hL]
  exact lamAt_of I S E LS h2 h3 hf np hc npc hb (fun A outer s H E T W => run f c' A outer s H E T W)
/-- a callee that is handed one callable, in any context over the def's frames -/
theorem call_lam {Fn : FnS} {f g : Addr} {fd : FuncData} {m : Lm} {Y : Cx} {pn : List (Addr × Obj)} {σY : L2.St} {Q : VK} (hP : Y.prog = X.prog) (hw : Y.w = X.w) (hK : Y.K = X.K) (hmg : Y.mg = X.mg) (hbs : Y.base = X.base) (hA : Y.A = X.A) (hst : Y.stack = X.stack) (room : RoomG Fn.lv X.A) (hp : PlainFd fd Fn.ps)
    (hF : FnG X.prog X.w X.K X.mg X.base Z.G.clss Z.T.t Z.lvL Fn.lv g fd Fn.ps Fn.sem) (hl : Fn.ps.length = 1) (I : Inv Y pn σY H s) (S : Sit Z.T Z.p F H st) (la : LamAt X.prog X.w X.K X.mg X.base Z.G.clss Z.T.t Z.p Z.lvL X.stack s H F f m)
    (h : ∀ d st', Fn.sem [.lam m] st = .ok (.d d) st' → ∀ F' H' w, Ext Z.p F H F' H' → Sit Z.T Z.p F' H' st' → Rp X.K F' H' w d → Q w H') (hne : ∃ d st', Fn.sem [.lam m] st = .ok (.d d) st') :
    wpAny (model X.prog X.w) X.A (call (.ref g) [.ref f] []) (EP Y pn σY Q) (fun _ _ => False) s := by
  have e0 := I.env0
  rw [hP, hw, hK, hmg, hbs, hA, hst] at e0
  obtain ⟨d, st', hs⟩ := hne
  refine wpAny_call (codeAny_mono (hF X.A X.stack s H ⟨[.ref f], []⟩ [.ref f] [.ref f] Q (fun _ _ _ => False) Z.p ⟨fun f' m' => f' = f ∧ m' = m, fun _ _ _ _ => False⟩ F [.lam m] st room e0 (.of_eq (binds_pos hp hl.symm)) (.cons rfl .nil) hl.symm (fun f' m' ⟨e1, e2⟩ => by rw [e1, e2]; exact la)
    ⟨S.pot, S.fz, S.tabs, fun a o q _ _ => q, fun a o q => ⟨o, q⟩, fun _ z => z⟩ (.cons ⟨f, rfl, rfl, rfl⟩ .nil) ?_) fun r s' hq => ?_)
  · rw [hs]
    exact fun F' H' w e s' v => h d st' hs F' H' w e ⟨s'.pot, s'.fz, s'.tabs, fun a o q n t => e.keep a o (S.ent a o q n t) n t, fun a o q => (let ⟨o', q'⟩ := S.pres a o q; e.there a o' q'), fun a z => e.fz a (S.fe a z)⟩ v
  · cases r with
    | error e =>
      obtain ⟨_, _, _, _, _, _, _, _, _, _, _, _, z⟩ := hq
      exact z.elim
    | ok fl =>
      cases fl with
      | ret u =>
        rw [← hst, ← hP, ← hw] at hq
        exact I.after hq
      | next => exact False.elim hq
      | brk => exact False.elim hq
      | cont => exact False.elim hq
theorem callG_lam {G : GT} {i : Nat} {Fn : FnS} {m : Lm} {st st' : Pot} {d : PyData} (hi : G.fns[i]? = some Fn) (h : callG G i [(.lam m, .cl)] st = .ok (.d d, .cl) st') : Fn.ps.length = 1 ∧ Fn.sem [.lam m] st = .ok (.d d) st' := by
  unfold callG at h
  rw [hi] at h
  simp only [List.length_cons, List.length_nil] at h
  split at h
  · rename_i hl
    refine ⟨by omega, ?_⟩
    have h : (Fn.sem [.lam m] st).bind (fun v st' => (.ok (v, .cl) st' : Ev)) = .ok (.d d, .cl) st' := h
    cases hs : Fn.sem [.lam m] st with
    | ok v st2 => rw [hs] at h; cases h; rfl
    | exc c x st2 => rw [hs] at h; cases h
    | bad => rw [hs] at h; cases h
  · cases h
theorem LamVs.at_ {lo : Obj → Addr → Str → Nat → Prop} {p : Option Addr} {H : Hp} : ∀ {vs : List V} {ks : List Nat} {i : Nat} {v : V}, LamVs lo p H vs ks → vs[i]? = some v → ∃ f c o q k, v = .ref f ∧ ks[i]? = some k ∧ lo o c q k ∧ H f = some (ObjO f o) ∧ p ≠ some f ∧ H c = some (CodeO c q) ∧ p ≠ some c
  | _, _, _, _, .nil, h => by simp at h
  | _, _, 0, _, .cons a b n c m t, h => by
    have e := Option.some.inj h
    subst e
    exact ⟨_, _, _, _, _, rfl, rfl, a, b, n, c, m⟩
  | _, _, i + 1, _, .cons a b n c m t, h => t.at_ (i := i) h
/-- f(lambda: e) -/
theorem k_heard1 {lvb fi : Nat} {Fn : FnS} {l : LamD} {x : Ex} {p1 lpos pos : Pos} (g : Good Z W X lv) (C : LamCtx Z X) (hL : Z.lvL = lvb + 1) (L : LamOk1 Z X lvb l x) (hi : Z.G.fns[fi]? = some Fn) (hlv : Fn.lv ≤ lv) (hg : Gl X Fn.name) (hd : (Fn.name == ("__debug__" : Str)) = false)
    (hdef : defaultsOf l.params X.env = ([], [])) : PE X (.Call (.Name Fn.name p1) [.Lambda l.params l.body l.scope lpos] [] pos) (rdE Z W X.K X.mg (.heard1 fi x)) := by
  refine ⟨fun pins s σ H Q I ⟨F, ρ, st, S, E, h⟩ => ?_⟩
  simp only [ev] at h
  obtain ⟨ga, fd, hm, hk, hp, hF⟩ := (g.fns fi Fn hi hlv).ex
  obtain ⟨cc, PP, h1, h2, h3, h4⟩ := C.ex
  refine wpAny_Call_Name_kw (ld_glob I hg hm ?_ hd)
  refine PySem.W.callWith_K (h₀ := X.base) I.ok.mod.kin hk ?_ (by rfl) (by rfl)
  show wpAny _ _ (spliced ((false, eval (.Lambda l.params l.body l.scope lpos) X.env) :: backTo pos (starEach [] X.env))) _ _ s
  refine Calls.spliced_cons (lam_new I h2 h1 h3 h4 S.tabs hdef (L.ls.has I.ok) fun f c' pm ctv H1 s' I1 eN th T1 nf ef ec => Calls.spliced_nil ⟨I1.kIn, ?_⟩)
  obtain ⟨e1, S1⟩ := ext_N S eN th T1
  have la := lamAt_of (Z := Z) (lv := lvb) (x := x) I1 S1 (E.ext S e1) L.ls rfl rfl ef (S1.noext ef) ec (S1.noext ec) L.bd fun A outer s H E T W => L.run f c' A outer s H E T W
  rw [← hL] at la
  cases hc : callG Z.G fi [(.lam (fun st => lamOf (ev Z.G x (ρ.map dropL) st)), .cl)] st with
  | bad => rw [hc] at h; exact h.elim
  | exc c x st => rw [hc] at h; exact h.elim
  | ok v st3 =>
    rw [hc] at h
    obtain ⟨v, kk⟩ := v
    cases v with
    | pot => exact h.elim
    | lam m => exact h.elim
    | lams m => exact h.elim
    | d d =>
      cases kk with
      | ow => exact h.elim
      | fr => exact h.elim
      | cl =>
        obtain ⟨hl, hsem⟩ := callG_lam hi hc
        refine thnF (call_lam (Y := X) rfl rfl rfl rfl rfl rfl rfl (g.room.mono hlv) hp hF hl I1 S1 la (fun d2 st2 h2 F' H' w e s v => ?_) ⟨d, st3, hsem⟩) fun u s2 q => q
        rw [hsem] at h2
        cases h2
        exact h F' H' (e1.trans e) s w v
/-- the reading of a block's element -/
def teH (Z : Zx) (X : Cx) (σ : L2.St) (ρ : List Sl) (lams : List LamD) (es : Exs) (i j : Nat) : TE := fun σ9 H9 Q => ∃ f c' o q k F st d st', σ9[j]? = some (some (V.ref f)) ∧ loOf lams X o c' q k ∧ H9 f = some (ObjO f o) ∧ Z.p ≠ some f ∧ H9 c' = some (CodeO c' q) ∧ Z.p ≠ some c' ∧
  Sit Z.T Z.p F H9 st ∧ ER (rc Z X) F H9 σ ρ ∧ callG Z.G i [(.lam (fun st => lamOf (evNth Z.G es k (ρ.map dropL) st)), .cl)] st = .ok (.d d, .cl) st' ∧ ∀ F' H' w, Ext Z.p F H9 F' H' → Sit Z.T Z.p F' H' st' → Rp X.K F' H' w d → Q w H'
theorem elt_H {lvb i j : Nat} {Fn : FnS} {lams : List LamD} {es : Exs} {y : Str} {scope : Scope} {p1 p2 p5 : Pos} (g : Good Z W X lv) (hL : Z.lvL = lvb + 1) (L : LamOk Z X lvb lams es) (hi : Z.G.fns[i]? = some Fn) (hlv : Fn.lv ≤ lv) (hg : ∀ (C : Addr) (cl : List (Str × Addr)), (compEnvC scope cl C X.env).scope.names.lookup Fn.name = some .globalImplicit)
    (hd : (Fn.name == ("__debug__" : Str)) = false) (hy : X.N[j]? = some y) (hvy : ∀ (C : Addr) (cl : List (Str × Addr)), Vis (compEnvC scope cl C X.env).scope y) (hdy : (y == ("__debug__" : Str)) = false) (hcy : (y == ("__classdict__" : Str)) = false) :
    EltK X pins σ scope (.Call (.Name Fn.name p1) [.Name y p2] [] p5) (teH Z X σ ρ lams es i j) := by
  refine ⟨fun s3 H3 C cl fp pn s9 σ9 H9 Q out Ib ⟨f, c', o, q, k, F, st, d, st', e1, e2, e3, e4, e5, e6, S, E, hc, hQ⟩ => ?_⟩
  obtain ⟨ga, fd, hm, hk, hp, hF⟩ := (g.fns i Fn hi hlv).ex
  obtain ⟨hl, hsem⟩ := callG_lam hi hc
  refine wpAny_Call_Name_kw (ld_glob (X := X.blk s3 H3 scope (compEnvC scope cl C X.env) fp) Ib (hg C cl) hm ?_ hd)
  refine PySem.W.callWith_K (h₀ := X.base) Ib.ok.mod.kin hk ?_ (by rfl) (by rfl)
  show wpAny _ _ (spliced ((false, eval (.Name y p2) (compEnvC scope cl C X.env)) :: backTo p5 (starEach [] (compEnvC scope cl C X.env)))) _ _ s9
  refine Calls.spliced_cons (thn ((pe_var (X := X.blk s3 H3 scope (compEnvC scope cl C X.env) fp) (pos := p2) (i := j) hy (hvy C cl) hdy hcy).run pn s9 σ9 H9 (fun v H1 => v = .ref f ∧ H1 = H9) Ib ⟨.ref f, e1, rfl, rfl⟩) fun u s10 ⟨v, H10, I10, r10, ev, eH⟩ => Calls.spliced_nil ⟨I10.kIn, ?_⟩)
  subst ev eH
  cases r10
  have Ix := out _ _ _ _ I10
  exact call_lam (Y := X.blk s3 H3 scope (compEnvC scope cl C X.env) fp) rfl rfl rfl rfl rfl rfl rfl (g.room.mono hlv) hp hF hl I10 S (lamAt_lo Ix S E L hL e2 e3 e4 e5 e6) (fun d2 st2 h2 F' H' w e s v => by
    rw [hsem] at h2
    cases h2
    exact hQ F' H' w e s v) ⟨d, st', hsem⟩
/-- [f(x) for x in xs], xs one's own list of lambdas -/
theorem k_heard {lvb i j fi : Nat} {Fn : FnS} {lams : List LamD} {es : Exs} {x y : Str} {scope : Scope} {p1 p2 p3 p4 p5 pos : Pos} (g : Good Z W X lv) (hL : Z.lvL = lvb + 1) (L : LamOk Z X lvb lams es) (hlo : Z.L.lo = loOf lams X) (hi : Z.G.fns[fi]? = some Fn) (hlv : Fn.lv ≤ lv)
    (hg : ∀ (C : Addr) (cl : List (Str × Addr)), (compEnvC scope cl C X.env).scope.names.lookup Fn.name = some .globalImplicit) (hd : (Fn.name == ("__debug__" : Str)) = false) (hxs : X.N[i]? = some x) (hvx : Vis X.env.scope x) (hdx : (x == ("__debug__" : Str)) = false) (hcx : (x == ("__classdict__" : Str)) = false)
    (hy : X.N[j]? = some y) (ok : BlkOk X.N X.env.scope scope [(y, j)]) (hgy : ∀ (s : Shared) (H : Hp) (C : Addr) (cl : List (Str × Addr)) (fp : List Addr), PG (X.blk s H scope (compEnvC scope cl C X.env) fp) (.Name y p3) (gName j)) (hvy : ∀ (C : Addr) (cl : List (Str × Addr)), Vis (compEnvC scope cl C X.env).scope y)
    (hdy : (y == ("__debug__" : Str)) = false) (hcy : (y == ("__classdict__" : Str)) = false) (hs : ∀ z, foldedSetIterable (.Name x p4) X.env z = pure z) :
    PE X (.ListComp (.Call (.Name Fn.name p1) [.Name y p2] [] p5) [⟨.Name y p3, .Name x p4, [], 0⟩] scope pos) (rdE Z W X.K X.mg (.heard fi i es)) := by
  refine ⟨fun pins s σ H Q I ⟨F, ρ, st, S, E, h⟩ => ?_⟩
  simp only [ev] at h
  split at h
  · rename_i ks hks
    obtain ⟨a, vs, g1, g2, g3, g4, g5⟩ := E.lam i ks hks
    refine lc_K g.calm g.nd I (pi_list (pe_var hxs hvx hdx hcx)) ok hgy (elt_H (ρ := ρ) g hL L hi hlv hg hd hy hvy hdy hcy) hs ⟨.ref a, g1, a, rfl, ⟨vs, SqL.of g2⟩, fun D hD => ?_⟩
    have hjl : j < σ.length := (by rw [I.len]; exact (List.getElem?_eq_some_iff.mp hy).1)
    have hvl : vs.length = ks.length := g5.length
    obtain ⟨_, _, _, hzl⟩ := I.list (SqL.of g2)
    have nT : Z.T.he D = none := by
      cases q : Z.T.he D with
      | none => rfl
      | some u =>
        obtain ⟨u', q'⟩ := S.pres D u q
        rw [hD] at q'; cases q'
    have np : Z.p ≠ some D := S.nop hD
    obtain ⟨m, hm⟩ : ∃ m : Nat → Lm, (fun k st => lamOf (evNth Z.G es k (ρ.map dropL) st)) = m := ⟨_, rfl⟩
    rw [hm] at h
    refine ⟨fun i' n H' => n = ks.length - i' ∧ i' ≤ ks.length ∧ ∃ F2 st2 acc ws, Ext Z.p F H F2 H' ∧ Sit Z.T Z.p F2 H' st2 ∧ H' D = some (.lst ws) ∧ ¬ F2 D ∧ Rps X.K F2 H' ws acc ∧ acc.length ≤ i' ∧
      Out Z W X.K X.mg σ F H ((heardGo Z.G fi m (ks.drop i') acc st2).bind fun ds st => okK (some (.list ds)) st) fun a st' Fz' H' => ∀ w, VT ⟨X.K, Z.p, Z.L⟩ H Fz' H' σ ρ w a.1 a.2 → Q w H',
      ⟨ks.length, by simp, Nat.zero_le _, F, st, [], [], Ext.upd hD, S.upd hD, upd_same, S.nofz hD, .nil, Nat.le_refl _, by simpa using h⟩, ?_⟩
    rintro i' n H2 ⟨rfl, hi', F2, st2, acc, ws, e2, S2, hD2, nF, ra, la, o2⟩
    have hA2 : H2 a = some (.lst vs) := e2.keep a _ g2 g4 (fun ps z => by cases z)
    by_cases hlt : i' < ks.length
    · have hvi : i' < vs.length := by omega
      have hv : vs[i']? = some vs[i'] := List.getElem?_eq_getElem hvi
      obtain ⟨f, c, o, q, k, f1, f2, f3, f4, f5, f6, f7⟩ := g5.at_ hv
      have hk : ks[i'] = k := (by rw [List.getElem?_eq_getElem hlt] at f2; exact Option.some.inj f2)
      rw [List.drop_eq_getElem_cons hlt, hk] at o2
      refine .inr ⟨⟨vs, _, SqL.of hA2, hv⟩, fun H' => ∃ F3 st3 acc' ws', Ext Z.p F H F3 H' ∧ Sit Z.T Z.p F3 H' st3 ∧ H' D = some (.lst ws') ∧ ¬ F3 D ∧ Rps X.K F3 H' ws' acc' ∧ acc'.length ≤ i' + 1 ∧
        Out Z W X.K X.mg σ F H ((heardGo Z.G fi m (ks.drop (i' + 1)) acc' st3).bind fun ds st => okK (some (.list ds)) st) fun a st' Fz' H' => ∀ w, VT ⟨X.K, Z.p, Z.L⟩ H Fz' H' σ ρ w a.1 a.2 → Q w H',
        fun H' nx => ⟨ks.length - (i' + 1), by omega, rfl, hlt, nx⟩, fun z H3 ⟨eH, hz⟩ => ?_⟩
      subst eH
      have ez := hz vs (SqL.of hA2)
      rw [hv, f1] at ez
      cases ez
      refine ⟨wipe_stG (σ := σ) (is := [j]) (vs := [.ref f]) (own := [j]) (fun _ z => z), ?_⟩
      unfold tYes
      simp only [if_true]
      have o2 : Out Z W X.K X.mg σ F H (((noExc (callG Z.G fi [(.lam (m k), .cl)] st2)).bind fun v st' => match v with
        | (.d d, .cl) => heardGo Z.G fi m (ks.drop (i' + 1)) (acc ++ [d]) st'
        | _ => .bad).bind fun ds st => okK (some (.list ds)) st) _ := o2
      cases hc : callG Z.G fi [(.lam (m k), .cl)] st2 with
      | bad => rw [hc] at o2; exact o2.elim
      | exc c x st => rw [hc] at o2; exact o2.elim
      | ok v st3 =>
        rw [hc] at o2
        obtain ⟨v, kk⟩ := v
        cases v with
        | pot => exact o2.elim
        | lam m => exact o2.elim
        | lams m => exact o2.elim
        | d d =>
          cases kk with
          | ow => exact o2.elim
          | fr => exact o2.elim
          | cl =>
            have mv : ∀ b φ, H b = some (.ext φ) → Z.p ≠ some b → H3 b = some (.ext φ) := fun b φ q n => e2.keep b _ q n (fun ps z => by cases z)
            refine ⟨f, c, o, q, k, F2, st2, d, st3, ?_, by rw [← hlo]; exact f3, mv _ _ f4 f5, f5, mv _ _ f6 f7, f7, S2, E.ext S e2, by subst hm; exact hc, fun F4 H4 w e4 S4 r4 => ?_⟩
            · show ((wipe σ [j]).set j (some (V.ref f)))[j]? = _
              rw [List.getElem?_set]
              simp only [if_true]
              rw [if_pos (by rw [wipe_length]; exact hjl)]
            · have hD4 : H4 D = some (.lst ws) := e4.keep D _ hD2 np (fun ps z => by cases z)
              have nF4 : ¬ F4 D := fun z => (e4.new D z).elim nF fun z => (by rw [hD2] at z; cases z)
              have mv4 : ∀ {a o}, F4 a → H4 a = some o → upd H4 D (.lst (ws ++ [w])) a = some o := fun {a o} z q => (by rw [upd_ne (fun e => nF4 (by rw [← e]; exact z))]; exact q)
              refine ⟨ws, hD4, by rw [ra.length]; omega, F4, st3, acc ++ [d], ws ++ [w], (e2.trans e4).write hD, S4.write hD4 np nF4 nT, upd_same, nF4, (ra.move (fun a z => e4.fz a z) fun a o z q => mv4 (e4.fz a z) (e4.kf S2 a o z q)).append (.cons (r4.move (fun _ z => z) fun a o z q => mv4 z q) .nil), by rw [List.length_append, List.length_singleton]; omega, o2⟩
    · have hi2 : i' = ks.length := by omega
      rw [hi2, List.drop_length] at o2
      exact .inl ⟨⟨vs, SqL.of hA2, by omega⟩, o2 F2 H2 e2 S2 (.ref D) ⟨D, ws, acc, rfl, rfl, hD2, nF, np, hD, ra⟩⟩
  · exact h.elim
end
end PyD
namespace PyD
open PySem PySem.Spec PyProof.Rows L2 LamX
/-- a def that hands back a new list of two ints, nobody else's -/
def FnPot (P : Program) (w : World) (K : PySem.W.Frag) (mg : Str → Option Value) (base : Heap) (T : List (Addr × Str)) (k : Nat) (f : Addr) (fd : FuncData) (ps : List Str) (sem : List Val → Pot → Res Val) : Prop :=
  ∀ (A : Around) (outer : List Env) (s : Shared) (H : Hp) (args : Args) (us : List Value) (vs : List V) (Q : VK) (E : XK) (Fz : Addr → Prop) (xs : List Val) (st st' : Pot) (x y : Int),
    RoomG k A → Env0 P w K mg base A outer s H → BindsTo s fd args (ps.zip us) → Vals vs us → vs.length = ps.length → Sit ⟨T, H, Fz⟩ none Fz H st → VRs ⟨K, none, noL⟩ Fz H vs xs → sem xs st = .ok (.d (.list [.int x, .int y])) st' →
    (∀ Fz' H' a, Ext none Fz H Fz' H' → Sit ⟨T, H, Fz⟩ none Fz' H' st' → H a = none → ¬ Fz' a → H' a = some (.lst [.int x, .int y]) → Q (.ref a) H') → codeAny (model P w) A (.call (.ref f) args) (CR (L2.CX P w) outer P w H s Q E) s
structure PotHas (P : Program) (w : World) (K : PySem.W.Frag) (mg : Str → Option Value) (base : Heap) (T : List (Addr × Str)) (F : FnS) : Prop where
  ex : ∃ f fd, mg F.name = some (.ref f) ∧ PySem.W.keepIn K (.ref f) = true ∧ PlainFd fd F.ps ∧ FnPot P w K mg base T F.lv f fd F.ps F.sem
theorem VRs.nopot {K : PySem.W.Frag} {p p' : Option Addr} {L L' : Ls} {F : Addr → Prop} {H : Hp} : ∀ {vs : List V} {as : List (Val × Kd)} {ds : List PyData}, VRs ⟨K, p, L⟩ F H vs (vals as) → dats (vals as) = some ds → VRs ⟨K, p', L'⟩ F H vs (vals as)
  | _, [], _, h, _ => by cases h; exact .nil
  | _, (v, k) :: as, ds, h, e => by
    have h : VRs ⟨K, p, L⟩ F H _ (v :: vals as) := h
    have e : dats (v :: vals as) = some ds := e
    cases h with
    | cons q r =>
      cases v with
      | d x =>
        cases hd : dats (vals as) with
        | none => simp [dats, hd] at e
        | some es => exact .cons q (VRs.nopot r hd)
      | pot => cases e
      | lam m => cases e
      | lams m => cases e
section
variable {Z : Zx} {W : WX} {X : Cx} {lv : Nat} {pins : List (Addr × Obj)} {s : Shared} {σ : L2.St} {H : Hp} {F : Addr → Prop} {ρ : List Sl} {st : Pot}
/-- R(P(..)): the new list is R's pot -/
theorem k_potCall {r p : Nat} {Fr Fp : FnS} {a : Expr} {es : List Expr} {xs : Exs} {p1 p2 pos pos2 : Pos} (g : Good Z W X lv) (hp0 : Z.p = none) (hr : Z.G.fns[r]? = some Fr) (hp : Z.G.fns[p]? = some Fp) (hlr : Fr.lv ≤ lv) (hlp : Fp.lv ≤ lv) (hP : PotHas X.prog X.w X.K X.mg X.base Z.T.t Fp) (hgr : Gl X Fr.name) (hgp : Gl X Fp.name)
    (hdr : (Fr.name == ("__debug__" : Str)) = false) (hdp : (Fp.name == ("__debug__" : Str)) = false) (ha : PA X (a :: es) (rdA Z W X.K X.mg xs)) (hs : starEach (a :: es) X.env = (false, eval a X.env) :: starEach es X.env) (hpl : (backTo pos2 (starEach es X.env)).any (·.1) = false) :
    PE X (.Call (.Name Fr.name p1) [.Call (.Name Fp.name p2) (a :: es) [] pos2] [] pos) (rdE Z W X.K X.mg (.potCall r p xs)) := by
  refine ⟨fun pins s σ H Q I ⟨F, ρ, st, S, E, h⟩ => ?_⟩
  simp only [ev] at h
  obtain ⟨fr, fdr, hmr, hkr, hpr, hFr⟩ := (g.fns r Fr hr hlr).ex
  obtain ⟨fp, fdp, hmp, hkp, hpp, hFp⟩ := hP.ex
  refine wpAny_Call_Name_kw (ld_glob I hgr hmr ?_ hdr)
  refine PySem.W.callWith_K (h₀ := X.base) I.ok.mod.kin hkr ?_ (by rfl) (by rfl)
  show wpAny _ _ (spliced ((false, eval (.Call (.Name Fp.name p2) (a :: es) [] pos2) X.env) :: backTo pos (starEach [] X.env))) _ _ s
  refine Calls.spliced_cons (wpAny_Call_Name_kw (ld_glob I hgp hmp ?_ hdp))
  refine PySem.W.callWith_K (h₀ := X.base) I.ok.mod.kin hkp (seqA ha I S E h fun us s1 ws as st1 Fz1 H1 I1 r1 e1 S1 E1 v1 er h1 => ⟨I1.kIn, ?_⟩) hs hpl
  have h0 := h
  rw [er] at h0
  have h1 : Out Z W X.K X.mg σ F H (match Z.G.fns[p]?, Z.G.fns[r]? with
    | some P, some R => if as.all isCl = true ∧ as.length = P.ps.length ∧ R.ps.length = 1 ∧ (dats (vals as)).isSome = true then
        match P.sem (vals as) st1 with
        | .ok (.d (.list [.int x, .int y])) _ => match R.sem [.pot] (x, y) with
          | .ok (.d d) _ => okD d st1
          | _ => .bad
        | _ => .bad
      else .bad
    | _, _ => .bad) (fun a st' Fz' H' => ∀ w, VT (rc Z X) H Fz' H' σ ρ w a.1 a.2 → Q w H') := h0
  rw [hr, hp] at h1
  simp only at h1
  split at h1
  · rename_i hc
    obtain ⟨hc1, hc2, hc3, hc4⟩ := hc
    obtain ⟨dds, hdd⟩ := Option.isSome_iff_exists.mp hc4
    cases hsem : Fp.sem (vals as) st1 with
    | bad => rw [hsem] at h1; exact h1.elim
    | exc c x st => rw [hsem] at h1; exact h1.elim
    | ok v st2 =>
      rw [hsem] at h1
      simp only at h1
      split at h1
      · rename_i x y st2' hv
        cases hv
        cases hrs : Fr.sem [.pot] (x, y) with
        | bad => rw [hrs] at h1; exact h1.elim
        | exc c x st => rw [hrs] at h1; exact h1.elim
        | ok v3 st3 =>
          rw [hrs] at h1
          cases v3 with
          | pot => exact h1.elim
          | lam m => exact h1.elim
          | lams m => exact h1.elim
          | d d =>
            have h1 : Out Z W X.K X.mg σ F H (okD d st1) fun a st' Fz' H' => ∀ w, VT (rc Z X) H Fz' H' σ ρ w a.1 a.2 → Q w H' := h1
            obtain ⟨F2, f2, r2⟩ := v1.clean S1 hc1
            have hl : us.length = Fp.ps.length := (by rw [← Paired.length r1, v1.length]; exact hc2)
            have e2 := f2.ext e1
            have S2 := f2.sit
            rw [hp0] at S2
            have r2' : VRs ⟨X.K, none, noL⟩ F2 H1 ws (vals as) := r2.nopot hdd
            refine wpAny_call (codeAny_mono (hFp X.A X.stack s1 H1 ⟨us, []⟩ us ws (fun w H' => ∃ Fz' a, w = .ref a ∧ Ext none F2 H1 Fz' H' ∧ Sit ⟨Z.T.t, H1, F2⟩ none Fz' H' st2 ∧ H1 a = none ∧ ¬ Fz' a ∧ H' a = some (.lst [.int x, .int y])) (fun cls d H' => W cls d σ H') F2 (vals as) st1 st2 x y (g.room.mono hlp) I1.env0 (.of_eq (binds_pos hpp hl)) r1 (by rw [Paired.length r1]; exact hl)
              ⟨fun q e => (by cases e), S2.fz, S2.tabs, fun a o q _ _ => q, fun a o q => ⟨o, q⟩, fun _ z => z⟩ r2' hsem fun Fz' H' a' e' s' n' z' q' => ⟨Fz', a', rfl, e', s', n', z', q'⟩) fun rr s2 hq => ?_)
            cases rr with
            | error e => exact g.tk _ _ (XE.of_call I1 (fun _ _ _ z => z) hq)
            | ok fl =>
              cases fl with
              | next => exact False.elim hq
              | brk => exact False.elim hq
              | cont => exact False.elim hq
              | ret u =>
                obtain ⟨w3, H3, I3, rv3, F3, q, rfl, e3, S3, n3, z3, hq3⟩ := I1.after hq
                cases rv3
                refine Calls.spliced_nil ⟨I3.kIn, ?_⟩
                have kp : ∀ {F' H'} (b : Addr) (o : HO), Ext (some q) F3 H3 F' H' → H1 b = some o → (∀ ps, o ≠ .tbl ps) → H' b = some o := fun {F' H'} b o e4 h nt => by
                  refine e4.keep b o (e3.keep b o h (fun z => by cases z) nt) (fun z => ?_) nt
                  cases z
                  rw [n3] at h
                  cases h
                have back : ∀ {F' H' st'}, Ext (some q) F3 H3 F' H' → Sit ⟨Z.T.t, H3, F3⟩ (some q) F' H' st' → Ext Z.p F2 H1 F' H' ∧ Sit Z.T Z.p F' H' st1 := fun {F' H' st'} e4 S4 => by
                  refine ⟨⟨fun a z => e4.fz a (e3.fz a z), fun b o h _ nt => kp b o e4 h nt, fun b z => ?_, fun b o h => ?_⟩, fun q' e => ?_, S4.fz, S4.tabs, fun b o h n nt => kp b o e4 (S1.ent b o h n nt) nt, fun b o h => ?_, fun a z => e4.fz a (e3.fz a (f2.sub a (S1.fe a z)))⟩
                  · rcases e4.new b z with z | z
                    · exact e3.new b z
                    · exact .inr (e3.fresh b z)
                  · obtain ⟨o1, q1⟩ := e3.there b o h
                    exact e4.there b o1 q1
                  · rw [hp0] at e; cases e
                  · obtain ⟨o1, q1⟩ := S1.pres b o h
                    obtain ⟨o2, q2⟩ := e3.there b o1 q1
                    exact e4.there b o2 q2
                refine wpAny_call (codeAny_mono (hFr X.A X.stack s2 H3 ⟨[.ref q], []⟩ [.ref q] [.ref q] Q (fun _ _ _ => False) (some q) noL F3 [.pot] (x, y) (g.room.mono hlr) I3.env0 (.of_eq (binds_pos hpr hc3.symm)) (.cons rfl .nil) hc3.symm (fun f m z => z.elim)
                  ⟨fun q' e => (by cases e; exact ⟨hq3, z3⟩), S3.fz, S3.tabs, fun a o q _ _ => q, fun a o q => ⟨o, q⟩, fun _ z => z⟩ (.cons ⟨q, rfl, rfl⟩ .nil) ?_) fun rr s3 hq4 => ?_)
                · rw [hrs]
                  intro F' H' w e4 S4 v4
                  obtain ⟨e5, S5⟩ := back e4 S4
                  exact h1 F' H' (e2.trans e5) S5 w v4
                · cases rr with
                  | error e =>
                    obtain ⟨_, _, _, _, _, _, _, _, _, _, _, _, z⟩ := hq4
                    exact z.elim
                  | ok fl =>
                    cases fl with
                    | ret u => exact I3.after hq4
                    | next => exact False.elim hq4
                    | brk => exact False.elim hq4
                    | cont => exact False.elim hq4
      · exact h1.elim
  · exact h1.elim
end
end PyD
namespace PyD
open PySem PySem.Spec PyProof.Rows L2 LamX
section
variable {P : Program} {w : World} {K : PySem.W.Frag} {mg : Str → Option Value} {base : Heap} {G : GT} {Tt : List (Addr × Str)} {lvL k : Nat}
theorem Rps.two {Fz : Addr → Prop} {H : Hp} {vs : List V} {x y : Int} (r : Rps K Fz H vs [.int x, .int y]) : vs = [.int x, .int y] := by
  cases r with
  | cons a t =>
    cases t with
    | cons b t =>
      cases t
      cases a
      cases b
      rfl
/-- a def of two rows, that hands back a new list -/
theorem fnPot_of {x qual : Str} {params : Arguments} {s1 : Stmt} {e : Expr} {rpos : Pos} {scope : Scope} {f : Addr} {fd : FuncData} {N ps : List Str} {x1 : Sm} {es : Exs} {sem : List Val → Pot → Res Val} (Fd : FunD K x qual params [s1, .Return (some e) rpos] scope [] [] f fd) (S : FnScope N ps scope) (Gl : Glob P w K mg base G Tt lvL k)
    (hx1 : ∀ ρ st v st', ex G x1 ρ st ≠ .ok (.ret v) st') (hs : sem = run G N.length (.cons x1 (.cons (.ret (.so (.lst es))) .nil)))
    (hbody : ∀ (cdv : Value) (A : Around) (outer : List Env) (s : Shared) (H : Hp) (E : XK) (T : Tb) (Fe : Addr → Prop) (W : WX), (∀ cls d σ σ' H, W cls d σ H → W cls d σ' H) → Good ⟨G, T, none, noL, lvL⟩ W (cxOf (L2.CX P w) P w K mg base N qual scope f cdv A outer s H E) k →
      PS (cxOf (L2.CX P w) P w K mg base N qual scope f cdv A outer s H E) s1 (rdS ⟨G, T, none, noL, lvL⟩ Fe W K mg x1) ∧ PE (cxOf (L2.CX P w) P w K mg base N qual scope f cdv A outer s H E) e (rdE ⟨G, T, none, noL, lvL⟩ W K mg (.lst es))) :
    FnPot P w K mg base Tt (k + 1) f fd ps sem := by
  subst hs
  obtain ⟨oc, od, dV, kV, doc, pm, an, cdv, ct, osl, rfl, lk, hcd, _, _⟩ := Fd.ex
  intro A outer s H args us vs Q E Fz xs st st' x y r e0 bt rv hl sit vr hsem hQ
  refine LamX.run_ofS lk hcd S r.r e0 bt rv hl fun hr => ?_
  obtain ⟨p1, p2⟩ := hbody cdv A outer s H E ⟨Tt, H, Fz⟩ Fz (fun cls d _ H => E cls d H) (fun _ _ _ _ _ h => h)
    ⟨rfl, S.nd, r.deeper _, Gl.fns, Gl.consts, Gl.clss, Gl.frees, Gl.bfs, Gl.subs, takes_of (X := cxOf (L2.CX P w) P w K mg base N qual scope f cdv A outer s H E) rfl rfl rfl rfl, fun f m q => q.elim⟩
  refine ⟨_, pss_cons p1 (pss_one (ps_ret p2)), ?_⟩
  have hps : xs.length = vs.length := vr.length.symm
  have rep : ∀ {i : Nat} {sl : Sl}, (xs.map Sl.v ++ List.replicate (N.length - xs.length) Sl.un)[i]? = some sl → (∀ ds, sl ≠ .own ds) ∧ ∀ ks, sl ≠ .lamL ks := fun {i sl} h => by
    by_cases hi : i < xs.length
    · rw [List.getElem?_append_left (by rw [List.length_map]; exact hi), List.getElem?_map] at h
      obtain ⟨y, _, e2⟩ := Option.map_eq_some_iff.mp h
      subst e2
      exact ⟨fun ds z => (by cases z), fun ks z => (by cases z)⟩
    · rw [List.getElem?_append_right (by rw [List.length_map]; omega)] at h
      have e2 := (List.mem_replicate.mp (List.mem_of_getElem? h)).2
      subst e2
      exact ⟨fun ds z => (by cases z), fun ks z => (by cases z)⟩
  refine ⟨Fz, xs.map Sl.v ++ List.replicate (N.length - xs.length) .un, st, ⟨sit, start_ER vr, fun i ds a h => ((rep h).1 ds rfl).elim, fun _ z => z, fun _ z => .inl z, fun i ks a h => ((rep h).2 ks rfl).elim⟩, ?_⟩
  unfold run at hsem
  simp only [exs] at hsem
  unfold OutS
  cases hx : ex G x1 (xs.map Sl.v ++ List.replicate (N.length - xs.length) .un) st with
  | exc c x st1 => rw [hx] at hsem; cases hsem
  | bad => rw [hx] at hsem; cases hsem
  | ok fl st1 =>
    rw [hx] at hsem
    cases fl with
    | brk ρ => cases hsem
    | ct ρ => cases hsem
    | ret v => exact (hx1 _ _ _ _ hx).elim
    | nx ρ =>
      intro F1 H1 σ1 rl i1
      refine ⟨F1, ρ, st1, i1.sit, i1.er, ?_⟩
      have hsem : ((((ev G (.lst es) ρ st1).bind fun v st => (.ok (.ret v.1) st : Res Fl)).bind fun f st => match f with
        | .nx ρ => .ok (.nx ρ) st
        | f => .ok f st).bind fun f st => match f with
        | .nx _ => (.ok (.d .none) st : Res Val)
        | .ret v => .ok v st
        | _ => .bad) = .ok (.d (.list [.int x, .int y])) st' := hsem
      cases he : ev G (.lst es) ρ st1 with
      | exc c x st2 => rw [he] at hsem; cases hsem
      | bad => rw [he] at hsem; cases hsem
      | ok v st2 =>
        have kf : ∃ ds, v = (.d (.list ds), .fr) := by
          simp only [ev] at he
          cases hv : evs G es ρ st1 with
          | exc c x st2 => rw [hv] at he; cases he
          | bad => rw [hv] at he; cases he
          | ok as st3 =>
            rw [hv] at he
            have he : (if (as.all isCl && decide (as.length ≤ 1000)) = true then okK ((dats (vals as)).map .list) st3 else .bad) = .ok v st2 := he
            split at he
            · cases hd : dats (vals as) with
              | none => rw [hd] at he; cases he
              | some ds => rw [hd] at he; cases he; exact ⟨ds, rfl⟩
            · cases he
        obtain ⟨ds, rfl⟩ := kf
        rw [he] at hsem
        have hsem : (.ok (.d (.list ds)) st2 : Res Val) = .ok (.d (.list [.int x, .int y])) st' := hsem
        simp only [Res.ok.injEq, Val.d.injEq, PyData.list.injEq] at hsem
        obtain ⟨e1, e2⟩ := hsem
        subst e1 e2
        intro F2 H2 e2 S2 w ⟨a, ws, ds', hw, hd', hH, nF, _, n0, rr⟩
        have e5 : ds' = [.int x, .int y] := (by cases hd'; rfl)
        subst e5 hw
        have hws := rr.two
        subst hws
        refine hQ F2 H2 a ⟨S2.fe, S2.ent, fun b z => ?_, S2.pres⟩ S2 (he_none (Z := ⟨G, ⟨Tt, H, Fz⟩, none, noL, lvL⟩) i1.sit.pres n0) nF hH
        rcases e2.new b z with z | z
        · exact i1.fe2 b z
        · exact .inr (he_none (Z := ⟨G, ⟨Tt, H, Fz⟩, none, noL, lvL⟩) i1.sit.pres z)
end
end PyD
namespace PyD
open PySem PySem.Spec PyProof.Rows L2 LamX
/-- no list of ints is written down -/
def intList (o : Obj) : Bool := match o with
  | ⟨.type c, none, .seq its _, _⟩ => decide (c = "list") && its.toList.all fun v => match v with | .int _ _ => true | _ => false
  | _ => false
def noIntL (K : PySem.W.Frag) : Bool := K.all fun p => !intList p.2
theorem noIntL_at {K : PySem.W.Frag} (h : noIntL K = true) {a : Addr} {o : Obj} (e : K.lookup a = some o) : intList o = false := by
  have := List.all_eq_true.mp h (a, o) (He.lookup_mem e)
  simpa using this
theorem ints_all : ∀ {vs : List Value} {ns : List Int}, IntsAre vs ns → (vs.all fun v => match v with | .int _ _ => true | _ => false) = true := by
  intro vs ns h
  induction h with
  | nil => rfl
  | cons n t _ ih =>
    rw [List.all_cons, ih]
    rfl
section
variable {P : Program} {w : World} {K : PySem.W.Frag} {mg mb : Str → Option Value} {G : GT} {Tt : List (Addr × Str)} {lvL k : Nat} {fa a : Addr} {cs : List (Addr × Addr)} {fd : FuncData} {x : Str} {sem : List Val → Pot → Res Val} {s₁ : Shared} {vs : List Value} {ns : List Int}
theorem ints_rps {Fz : Addr → Prop} {H : Hp} : ∀ ns : List Int, Rps K Fz H (ns.map V.int) (ns.map PyData.int)
  | [] => .nil
  | n :: ns => .cons (.int n) (ints_rps ns)
/-- the law's call, its def known by its function -/
theorem law_callG (KX : K.In s₁.heap) (hns : s₁.heap.Ns mainGlobals mg) (hb : s₁.heap.Ns builtinsNs mb) (hbb : ∀ x : Str, x ≠ "__name__" → mb x = bootBuiltins x) (hlim : s₁.heap.NoLimit) (hg : s₁.gens = #[])
    (hT : ∀ p ∈ cs, s₁.heap.get? p.2 = some { cls := .none, data := .fields #[] }) (nT : ∀ p ∈ cs, K.lookup p.2 = none) (C : ∀ p ∈ cs, PySem.W.CodeHd s₁.heap p.1 p.2) (hTt : ∀ t ∈ Tt, ∃ p ∈ cs, p.2 = t.1)
    (hbm : ∃ (bm : Addr) (ob : Obj), mg "__builtins__" = some (.ref bm) ∧ bm ≠ builtinsNs ∧ s₁.heap.get? bm = some ob ∧ ob.cls = .type "module" ∧ ob.dict = some builtinsNs ∧ ob.data = .plain)
    (ha : s₁.heap.get? a = some { cls := .type "list", data := .seq vs.toArray }) (hi : IntsAre vs ns) (hl : ns.length ≤ sizeLine) (hr : RoomG k callerA) (hK : noIntL K = true)
    (F : ∀ base : Heap, K.In base → base.Ns mainGlobals mg → (∀ p ∈ cs, TabB base mg p.1 p.2) → FnGp P w K mg base G.clss Tt lvL none k fa fd [x] sem) (hbind : ∀ (s : Shared) (u : Value), BindsTo s fd ⟨[u], []⟩ [(x, u)])
    (hsem : ∃ st', sem [.d (.list (ns.map PyData.int))] (0, 0) = .ok (.d (.bool true)) st') :
    codeAny (model P w) callerA (.call (.ref fa) ⟨[.ref a], []⟩) (fun r s' => r = .ok (.ret (.bool true)) ∧ OldK s₁.heap s'.heap ∧ s'.os = s₁.os ∧ AllBare s'.gens) s₁ := by
  have rv := vals_ints hi
  have lenV := hi.length
  have ka : K.lookup a = none := by
    cases q : K.lookup a with
    | none => rfl
    | some o =>
      have e := KX a o q
      have z := noIntL_at hK q
      rw [ha] at e
      cases e
      unfold intList at z
      simp only [ints_all hi, decide_true, Bool.and_true] at z
      cases z
  -- the tables' places
  obtain ⟨ts, hts⟩ : ∃ ts, cs.map (·.2) = ts := ⟨_, rfl⟩
  have tIn : ∀ {p}, p ∈ cs → p.2 ∈ ts := fun {p} hp => (by rw [← hts]; exact List.mem_map.mpr ⟨p, hp, rfl⟩)
  have tOut : ∀ {b : Addr}, b ∈ ts → ∃ p ∈ cs, p.2 = b := fun {b} hb => List.mem_map.mp (by rw [hts]; exact hb)
  have tAt : ∀ {b : Addr}, b ∈ ts → s₁.heap.get? b = some { cls := .none, data := .fields #[] } := fun {b} hb => by
    obtain ⟨p, hp, e⟩ := tOut hb
    subst e
    exact hT p hp
  have aT : a ∉ ts := fun z => by
    have q := tAt z
    rw [ha] at q
    injection q with q
    injection q with q1 q2 q3
    cases q1
  -- what is tracked: the script, the tables
  obtain ⟨H, hH⟩ : ∃ H : Hp, H = fun b => if b = a then some (.frz { cls := .type "list", data := .seq vs.toArray } (.lst (ns.map V.int))) else if b ∈ ts then some (.tbl #[]) else none := ⟨_, rfl⟩
  have Ha : H a = some (.frz { cls := .type "list", data := .seq vs.toArray } (.lst (ns.map V.int))) := (by rw [hH]; simp)
  have Ht : ∀ {b : Addr}, b ∈ ts → H b = some (.tbl #[]) := fun {b} hb => by
    have hn : b ≠ a := fun e => aT (by rw [← e]; exact hb)
    rw [hH]
    simp only [if_neg hn, if_pos hb]
  have Hn : ∀ {b : Addr}, b ≠ a → b ∉ ts → H b = none := fun {b} h1 h2 => by
    rw [hH]
    simp only [if_neg h1, if_neg h2]
  have Hc : ∀ b, b = a ∨ b ∈ ts ∨ H b = none := fun b => by
    by_cases h1 : b = a
    · exact .inl h1
    · by_cases h2 : b ∈ ts
      · exact .inr (.inl h2)
      · exact .inr (.inr (Hn h1 h2))
  have hok : HOk P w H s₁.heap := fun b u e => by
    rcases Hc b with h | h | h
    · subst h
      rw [Ha] at e
      cases e
      exact ⟨ha, by rw [List.length_map]; exact hl, vs, _, rv, ha⟩
    · rw [Ht h] at e
      cases e
      exact tAt h
    · rw [h] at e
      cases e
  have noD : ∀ {b : Addr} {o : Obj}, s₁.heap.get? b = some o → (∀ vs n, o.data ≠ .seq vs n) → o.data ≠ .fields #[] → H b = none := fun {b o} e h1 h2 => by
    rcases Hc b with h | h | h
    · subst h
      rw [ha] at e
      cases e
      exact (h1 _ _ rfl).elim
    · rw [tAt h] at e
      cases e
      exact (h2 rfl).elim
    · exact h
  have inB : ∀ {b : Addr} {o : Obj}, s₁.heap.get? b = some o → H b = none → (hidT s₁.heap H).get? b = some o := fun e n => hidT_get e n
  have nsB : ∀ {b : Addr} {m : Str → Option Value}, s₁.heap.Ns b m → (hidT s₁.heap H).Ns b m := fun {b m} ⟨o, es, ep, e, d, r⟩ =>
    ⟨o, es, ep, inB e (noD e (fun vs n z => (by rw [d] at z; cases z)) fun z => (by rw [d] at z; cases z)), d, r⟩
  have KB : K.In (hidT s₁.heap H) := fun b o e => inB (KX b o e) (by
    rcases Hc b with h | h | h
    · subst h
      rw [ka] at e
      cases e
    · obtain ⟨p, hp, ep⟩ := tOut h
      subst ep
      rw [nT p hp] at e
      cases e
    · exact h)
  have MB : L2.Mod K mg (hidT s₁.heap H) := by
    obtain ⟨mc, l1, l2⟩ := hlim
    exact ⟨KB, nsB hns, ⟨mb, nsB hb, hbb⟩, mc, nsB l1, l2⟩
  have TB : ∀ p ∈ cs, TabB (hidT s₁.heap H) mg p.1 p.2 := fun p hp => by
    refine ⟨?_, ?_, fun z => ?_⟩
    · obtain ⟨o, us, file, tf, flags, tg, inF, text, tt, e1, r1, r2, r3, r⟩ := C p hp
      exact ⟨o, us, file, tf, flags, tg, inF, text, tt, inB e1 (noD e1 (fun vs n z => (by rw [r2] at z; cases z)) fun z => (by rw [r2] at z; cases z; simp at r3)), r1, r2, r3, r⟩
    · obtain ⟨bm, ob, b1, b2, b3, b4, b5, b6⟩ := hbm
      refine ⟨bm, ob, b1, b2, fun q => ?_, fun q => ?_, inB b3 (noD b3 (fun vs n z => (by rw [b6] at z; cases z)) fun z => (by rw [b6] at z; cases z)), b4, b5, b6⟩
      · obtain ⟨o, es, ep, e, hd, _⟩ := hns
        subst q
        rw [e] at b3
        cases b3
        rw [hd] at b6
        cases b6
      · rw [q, hT p hp] at b3
        cases b3
        cases b6
    · obtain ⟨o, es, ep, e, hd, _⟩ := hns
      rw [z, hT p hp] at e
      cases e
      cases hd
  have e0 : Env0 P w K mg (hidT s₁.heap H) callerA [] s₁ H := ⟨rfl, MB, fun b o e => of_hidT e, Nat.le_of_eq (hidT_size _ _), trivial, fun b hb => (by cases hb), hok, .of_eq hg⟩
  have sit : Sit ⟨Tt, H, fun b => b = a⟩ none (fun b => b = a) H (0, 0) := by
    refine ⟨fun q e => (by cases e), fun b z => (by have z : b = a := z; subst z; exact ⟨_, Ha, fun ps z => (by cases z)⟩), fun t ht => ?_, fun b o e _ _ => e, fun b o e => ⟨o, e⟩, fun _ z => z⟩
    obtain ⟨p, hp, e⟩ := hTt t ht
    exact TabS.nil (by rw [← e]; exact Ht (tIn hp))
  obtain ⟨st', hs⟩ := hsem
  refine codeAny_mono (F _ KB (nsB hns) TB callerA [] s₁ H ⟨[.ref a], []⟩ [.ref a] [.ref a] (fun v _ => v = .bl true) (fun _ _ _ => False) noL (fun b => b = a) [.d (.list (ns.map PyData.int))] (0, 0) hr e0 (hbind s₁ (.ref a)) (.cons rfl .nil) rfl (fun f m z => z.elim) sit (.cons (Rp.lst (.inr ⟨_, Ha⟩) rfl (ints_rps ns)) .nil) ?_) fun r s' h => ?_
  · rw [hs]
    intro F' H' w' _ _ v
    cases v
    rfl
  · cases r with
    | error e =>
      obtain ⟨_, _, _, _, _, _, _, _, _, _, _, _, z⟩ := h
      exact z.elim
    | ok fl =>
      cases fl with
      | next => exact False.elim h
      | brk => exact False.elim h
      | cont => exact False.elim h
      | ret u =>
        obtain ⟨v, H', os, bare, un, hok', r', q⟩ := h
        subst q
        obtain rfl : u = Value.bool true := r'
        have old : ∀ b o, b ∉ ts → s₁.heap.get? b = some o → s'.heap.get? b = some o := fun b o nb e => by
          rcases Hc b with h | h | h
          · subst h
            obtain ⟨e1, _⟩ := hok b _ Ha
            obtain ⟨e2, _⟩ := hok' b _ (un.frzs b _ _ Ha)
            rw [e] at e1
            cases e1
            exact e2
          · exact absurd h nb
          · exact un.keep b o e h (fun z => by cases z) (fun z => by cases z)
        have tab : ∀ {b : Addr}, b ∈ ts → ∃ more : Array Value, s'.heap.get? b = some { cls := .none, data := .fields more } := fun {b} hb => by
          obtain ⟨more, z⟩ := un.tbls b #[] (Ht hb)
          exact ⟨_, hok' b _ z⟩
        refine ⟨rfl, ⟨fun b o e => ?_, fun b o e => ?_⟩, os, bare⟩
        · by_cases hb : b ∈ ts
          · obtain ⟨more, hm⟩ := tab hb
            obtain ⟨p, hp, ep⟩ := tOut hb
            subst ep
            rw [hT p hp] at e
            cases e
            exact .inr (.inl ⟨((C p hp).tab (hT p hp)).isCodeTable, rfl, #[], more, rfl, by rw [Array.empty_append]; exact hm⟩)
          · exact .inl (old b o hb e)
        · by_cases hb : b ∈ ts
          · obtain ⟨more, hm⟩ := tab hb
            exact ⟨_, hm⟩
          · exact ⟨o, old b o hb e⟩
end
theorem walk_G {l : PySem.W.OpenLaw} {n k lvL : Nat} {q : Program} {loose : List Str} {XP : (Str → Option Value) → Heap → Prop} {YP : World → Heap → Prop} {d : DefRec} {G : GT} {x : Str} {sem : List Val → Pot → Res Val} (hn : l.most = some n) (hn2 : n ≤ sizeLine) (hdf : d.params.defaults = []) (hr : RoomG k callerA)
    (F : ∀ (w : World) (mg : Str → Option Value) (fa : Addr) (h : Heap), YP w h → h.Ns mainGlobals mg → mg d.name = some (.ref fa) → ∃ (K : PySem.W.Frag) (fd : FuncData) (cs : List (Addr × Addr)) (Tt : List (Addr × Str)), K.In h ∧ noIntL K = true ∧ (∀ p ∈ cs, h.get? p.2 = some { cls := .none, data := .fields #[] }) ∧ (∀ p ∈ cs, K.lookup p.2 = none) ∧
      (∀ p ∈ cs, PySem.W.CodeHd h p.1 p.2) ∧ (∀ t ∈ Tt, ∃ p ∈ cs, p.2 = t.1) ∧ (∀ (s : Shared) (u : Value), BindsTo s fd ⟨[u], []⟩ [(x, u)]) ∧ ∀ base : Heap, K.In base → base.Ns mainGlobals mg → (∀ p ∈ cs, TabB base mg p.1 p.2) → FnGp l.prog w K mg base G.clss Tt lvL none k fa fd [x] sem)
    (hsem : ∀ ns : List Int, ns.length ≤ n → (∀ z ∈ ns, Builtin.Int.intBits z ≤ 1048576) → ∃ st', sem [.d (.list (ns.map PyData.int))] (0, 0) = .ok (.d (.bool true)) st') :
    PySem.W.WalkO q loose XP YP l.row.toRowW d [] (fun f vs => PySem.call f vs) := by
  refine Att.attach_callB hn hdf fun w s₀ s₁ mg mb fa o pm cd doc a vs ns G Y ho hd hcd hmg hobj hints hlen hbits hg => ?_
  obtain ⟨K, fd, cs, Tt, KX, hK, hT, nT, C, hTt, hb, hF⟩ := F w mg fa _ Y G.T.g hmg
  exact law_callG KX G.T.g G.T.b G.T.builtins G.T.nolimit hg hT nT C hTt G.T.bmain hobj hints (Nat.le_trans hlen hn2) hr hK hF hb (hsem ns hlen hbits)
end PyD
namespace PyD
open PySem PySem.Spec PyProof.Rows L2 LamX
/-! ### own exception classes -/
def slB (n : String) : List (Option Value) → Bool
  | [_, _, _, _, some (.builtin m), _] => decide (m = n)
  | _ => false
def mroB (C : Addr) : List Value → Bool
  | .ref C' :: bm => decide (C' = C) && HandSPX.refsVE bm
  | _ => false
def oexB (K : PySem.W.Frag) (C : Addr) : Bool := (match K.lookup C with
  | some ⟨.type t, _, .cls cd, sl⟩ => decide (t = "type") && (mroB C cd.mro && (slB "ValueError.__new__" sl.toList && (cd.hasDict && !cd.hasDel)))
  | _ => false) && (He.eqO (PySem.W.findIn K (.ref C) "__setattr__") (some (some (.builtin "object.__setattr__"))) && (decide (PySem.W.subIn K (.ref C) (.type "BaseException") = some true) && (decide (PySem.W.typeIn K (.ref C) = some (.type "type")) && PySem.W.keepIn K (.ref C))))
theorem slB_ok {n : String} {sl : Array (Option Value)} (h : slB n sl.toList = true) : ∃ k0 k1 k2 k3 k5, sl = #[k0, k1, k2, k3, some (.builtin n), k5] := by
  obtain ⟨l⟩ := sl
  unfold slB at h
  split at h
  · rename_i k0 k1 k2 k3 m k5 e
    have e2 : m = n := of_decide_eq_true h
    subst e2
    exact ⟨k0, k1, k2, k3, k5, by rw [← e]⟩
  · cases h
theorem oexB_ok {K : PySem.W.Frag} {C : Addr} (h : oexB K C = true) : OexC K C := by
  unfold oexB at h
  obtain ⟨h0, h⟩ := He.ba h
  obtain ⟨h1, h⟩ := He.ba h
  obtain ⟨h2, h⟩ := He.ba h
  obtain ⟨h3, h4⟩ := He.ba h
  refine ⟨?_, He.eqO_ok h1, of_decide_eq_true h2, of_decide_eq_true h3, h4⟩
  split at h0
  · rename_i t dd cd sl ho
    obtain ⟨g0, h0⟩ := He.ba h0
    obtain ⟨g1, h0⟩ := He.ba h0
    obtain ⟨g2, h0⟩ := He.ba h0
    obtain ⟨g3, g4⟩ := He.ba h0
    have e := of_decide_eq_true g0
    subst e
    obtain ⟨k0, k1, k2, k3, k5, rfl⟩ := slB_ok g2
    obtain ⟨nm, bs, mro, ns, qn, hd, sn, sub, ab, col, del⟩ := cd
    dsimp only at g1 g3 g4
    subst g3
    have g5 : del = false := by simpa using g4
    subst g5
    cases mro with
    | nil => cases g1
    | cons v bm =>
      cases v with
      | ref C' =>
        obtain ⟨z1, z2⟩ := He.ba (show (decide (C' = C) && HandSPX.refsVE bm) = true from g1)
        have z3 := of_decide_eq_true z1
        subst z3
        exact ⟨nm, qn, ns, bs, bm, sn, sub, ab, col, dd, k0, k1, k2, k3, k5, ho, z2⟩
      | _ => cases g1
  · cases h0
def isVis' (sc : Scope) (x : Str) : Bool := match sc.names.lookup x with
  | some .local | some .cell | some .free => true
  | _ => false
theorem vis_of' {sc : Scope} {x : Str} (h : isVis' sc x = true) : Vis sc x := by
  unfold isVis' at h
  split at h
  · rename_i e; exact .inl e
  · rename_i e; exact .inr (.inl e)
  · rename_i e; exact .inr (.inr e)
  · cases h
section
variable {P : Program} {w : World} {K : PySem.W.Frag} {mg : Str → Option Value} {base : Heap}
/-- what an own __init__ that stores its value keeps -/
def spIni (K : PySem.W.Frag) : Sp := fun vs H Q _ => ∃ (e C : Addr) (y : V), vs = [.ref e, y] ∧ OexC K C ∧ PySem.W.findIn K (.ref C) "value" = some none ∧ H e = some (exo e C none) ∧
  ∀ dx, H dx = none → dx ≠ e → Q .non (upd (upd H dx (exd dx [(Str.ofString "value", y)])) e (exo e C (some dx)))
/-- def __init__(self, value): self.value = value -/
structure IniD (params : Arguments) (body : List Stmt) (scope : Scope) : Prop where
  sc : FnScope ["self", "value"] ["self", "value"] scope
  bd : ∃ p1 p2 p3 pos, body = [.Assign [.Attribute (.Name "self" p1) "value" p2] (.Name "value" p3) pos]
  bi : ∀ (n q : Str) (kV doc pm : Value) (an : Option Addr) (cdv ct : Value) (us : List Value), us.length = 2 → bindArgs (PySem.W.fnOf n q params body scope .none kV doc pm an cdv ct) ⟨us, []⟩ = pure ((["self", "value"] : List Str).zip us)
  v1 : isVis' scope "self" = true
  v2 : isVis' scope "value" = true
theorem ini_ok {n q : Str} {params : Arguments} {body : List Stmt} {scope : Scope} {f : Addr} {fd : FuncData} (F : FunD K n q params body scope [] [] f fd) (D : IniD params body scope) : FnOk P w K mg base (L2.CX P w) 1 f fd ["self", "value"] (spIni K) := by
  obtain ⟨p1, p2, p3, pos, rfl⟩ := D.bd
  refine F.ok D.sc (fun vs H Q E ⟨e, C, y, h, _⟩ => by rw [h]; rfl) fun cdv A outer s H vs Q E hr ⟨e, C, y, hv, T, hno, he, k⟩ => ?_
  subst hv
  refine ⟨_, pss_one (ps_ost (pe_var (i := 0) rfl (vis_of' D.v1) rfl rfl) (pe_var (i := 1) rfl (vis_of' D.v2) rfl rfl)), ?_⟩
  exact ⟨y, rfl, .ref e, rfl, e, C, rfl, T, hno, .inl ⟨he, k⟩⟩
end
end PyD
namespace PyD
open PySem PySem.Spec PyProof.Rows L2 LamX
section
variable {P : Program} {w : World} {K : PySem.W.Frag} {mg : Str → Option Value} {base : Heap}
/-- more is wanted of an expression's value -/
theorem pe_more {X : Cx} {e : Expr} {t : TE} (h : PE X e t) : PE X e (fun σ H Q => ∃ R : VK, t σ H R ∧ ∀ v H1, R v H1 → Q v H1) :=
  ⟨fun pins s σ H Q I ⟨R, q, k⟩ => thn (h.run pins s σ H R I q) fun u s1 ⟨v, H1, I1, r1, q1⟩ => ⟨v, H1, I1, r1, k v H1 q1⟩⟩
theorem end_heap {H : Hp} {e d C : Addr} {y : V} (he : H e = none) (hd : H d = none) (n : d ≠ e) : upd (L2.del (upd (upd (upd H e (exo e C none)) d (exd d [(Str.ofString "value", y)])) e (exo e C (some d))) e) d (.xd [(Str.ofString "value", y)]) = upd H d (.xd [(Str.ofString "value", y)]) := by
  funext b
  by_cases h1 : b = d
  · subst h1; rw [upd_same, upd_same]
  · rw [upd_ne h1, upd_ne h1]
    by_cases h2 : b = e
    · subst h2; rw [L2.del_same, he]
    · rw [L2.del_ne h2, upd_ne h2, upd_ne h1, upd_ne h2]
theorem clsV_of {nm : Str} {a fI : Addr} {fd : FuncData} {n q : Str} {params : Arguments} {body : List Stmt} {scope : Scope} (hm : mg nm = some (.ref a)) (T : OexC K a) (iC : PySem.W.findIn K (.ref a) "__init__" = some (some (.ref fI))) (tI : PySem.W.typeIn K (.ref fI) = some (.type "function"))
    (F : FunD K n q params body scope [] [] fI fd) (D : IniD params body scope) (hno : PySem.W.findIn K (.ref a) "value" = some none) (hdb : (nm == ("__debug__" : Str)) = false) : ClsHas P w K mg base ⟨nm, true⟩ := by
  refine ⟨a, hm, fun X hP hw hK hmg hbs hc hr hg => ⟨fun _ e t p pos hs he => ?_, fun h => by cases h⟩⟩
  subst hP hw hK hmg hbs
  intro pins s σ H Q I h
  refine pmk_oex (CX := L2.CX X.prog X.w) (ds := []) (dvs := []) T iC tI (ini_ok F D) (hr.mono (by decide)) (F.bindsN fun kV doc pm an cdv ct us hl => D.bi n q kV doc pm an cdv ct us hl) .nil (fun pins σ H s e s' I x => ?_) hg hm (pa_cons (pe_more he) pa_nil hs) hdb hs rfl pins s σ H Q I ?_
  · obtain ⟨_, _, _, _, _, _, _, _, _, _, _, _, z⟩ := x
    exact z.elim
  · refine ⟨_, h, fun y H1 k => ⟨by show 1 ≤ 1000; decide, fun e' ne => ⟨e', a, y, rfl, T, hno, upd_same, fun dx nd hne => ?_⟩⟩⟩
    have nd' : H1 dx = none := by rw [upd_ne hne] at nd; exact nd
    refine ⟨rfl, dx, _, upd_same, by rw [upd_ne hne, upd_same], nd', ?_⟩
    rw [end_heap ne nd' hne]
    exact k dx nd'
/-! ### what the head tells of a class -/
def clsB (K : PySem.W.Frag) (root x : Str) : Bool := He.eqO (PySem.W.nsIn K mainGlobals x) (some (some (.ref (He.ga K x)))) && (oexB K (He.ga K x) && (He.eqO (PySem.W.findIn K (.ref (He.ga K x)) "__init__") (some (some (.ref (He.ma K (He.ga K root) "__init__")))) &&
  (decide (PySem.W.typeIn K (.ref (He.ma K (He.ga K root) "__init__")) = some (.type "function")) && He.eqO (PySem.W.findIn K (.ref (He.ga K x)) "value") (some none))))
theorem clsB_ok {h : Heap} (X : K.In h) (Gm : h.Ns mainGlobals mg) {root x : Str} {fd : FuncData} {n q : Str} {params : Arguments} {body : List Stmt} {scope : Scope} (c : clsB K root x = true) (F : FunD K n q params body scope [] [] (He.ma K (He.ga K root) "__init__") fd) (D : IniD params body scope) (hdb : (x == ("__debug__" : Str)) = false) :
    ClsHas P w K mg base ⟨x, true⟩ := by
  obtain ⟨h1, c⟩ := He.ba c
  obtain ⟨h2, c⟩ := He.ba c
  obtain ⟨h3, c⟩ := He.ba c
  obtain ⟨h4, h5⟩ := He.ba c
  exact clsV_of (PySem.W.mg_of X Gm (He.eqO_ok h1)) (oexB_ok h2) (He.eqO_ok h3) (of_decide_eq_true h4) F D (He.eqO_ok h5) hdb
/-- what a clause's class makes of a raised one -/
def subB (K : PySem.W.Frag) (cs : List ClS) (t : Nat × Nat × Bool) : Bool := match cs[t.1]?, cs[t.2.1]? with
  | some C', some C => He.eqO (PySem.W.nsIn K mainGlobals C'.name) (some (some (.ref (He.ga K C'.name)))) && (He.eqO (PySem.W.nsIn K mainGlobals C.name) (some (some (.ref (He.ga K C.name)))) && (decide (PySem.W.exmOne K (.ref (He.ga K C'.name)) (.ref (He.ga K C.name)) = some t.2.2) &&
    (!t.2.2 || (xfB K (He.ga K C'.name) && He.eqO (PySem.W.findIn K (.ref (He.ga K C'.name)) "value") (some none)))))
  | _, _ => false
theorem subB_ok {h : Heap} (X : K.In h) (Gm : h.Ns mainGlobals mg) {cs : List ClS} {c' c : Nat} {b : Bool} (q : subB K cs (c', c, b) = true) : SubHas K mg cs c' c b := by
  unfold subB at q
  cases e1 : cs[c']? with
  | none => simp only [e1] at q; cases q
  | some C' =>
    cases e2 : cs[c]? with
    | none => simp only [e1, e2] at q; cases q
    | some C =>
      simp only [e1, e2] at q
      obtain ⟨h1, q⟩ := He.ba q
      obtain ⟨h2, q⟩ := He.ba q
      obtain ⟨h3, q⟩ := He.ba q
      refine ⟨C, C', _, _, e1, e2, PySem.W.mg_of X Gm (He.eqO_ok h1), PySem.W.mg_of X Gm (He.eqO_ok h2), of_decide_eq_true h3, fun hb => ?_⟩
      subst hb
      obtain ⟨h4, h5⟩ := He.ba (show (xfB K (He.ga K C'.name) && He.eqO (PySem.W.findIn K (.ref (He.ga K C'.name)) "value") (some none)) = true from q)
      exact ⟨xfB_ok h4, He.eqO_ok h5⟩
theorem subOf_mem {G : GT} {c' c : Nat} {b : Bool} (h : subOf G c' c = some b) : (c', c, b) ∈ G.subs := by
  unfold subOf at h
  obtain ⟨⟨x, y, z⟩, h1, h2⟩ := Option.map_eq_some_iff.mp h
  have h3 := List.find?_some h1
  have h4 := List.mem_of_find?_eq_some h1
  simp only [Bool.and_eq_true, beq_iff_eq] at h3
  obtain ⟨rfl, rfl⟩ := h3
  have h2 : z = b := h2
  subst h2
  exact h4
/-! ### constants -/
mutual
def datB (K : PySem.W.Frag) : PyData → Value → Bool
  | .none, u => match u with | .none => true | _ => false
  | .bool b, u => match u with | .bool c => b == c | _ => false
  | .int i, u => match u with | .int j _ => decide (j = i) | _ => false
  | .str x, u => match u with | .str y _ => decide (y = x) | _ => false
  | .tuple ds, u => match u with
    | .ref a => match K.lookup a with
      | some o => decide (o.cls = .type "tuple") && (match o.data with
        | .seq its _ => decide (its.size ≤ sizeLine) && datsB K ds its.toList
        | _ => false)
      | none => false
    | _ => false
  | _, _ => false
def datsB (K : PySem.W.Frag) : List PyData → List Value → Bool
  | [], us => us.isEmpty
  | d :: ds, us => match us with
    | u :: us => datB K d u && datsB K ds us
    | [] => false
end
mutual
theorem datB_ok : ∀ {d : PyData} {u : Value}, datB K d u = true → ∃ v, RelV v u ∧ Rp K (fun _ => False) nilH v d
  | .none, u, h => by
    cases u with
    | none => exact ⟨.non, rfl, .non⟩
    | _ => cases h
  | .bool b, u, h => by
    cases u with
    | bool c =>
      have e : b = c := eq_of_beq h
      subst e
      exact ⟨.bl b, rfl, .bl b⟩
    | _ => cases h
  | .int i, u, h => by
    cases u with
    | int j t =>
      have e : j = i := of_decide_eq_true h
      subst e
      exact ⟨.int j, ⟨t, rfl⟩, .int j⟩
    | _ => cases h
  | .str x, u, h => by
    cases u with
    | str y t =>
      have e : y = x := of_decide_eq_true h
      subst e
      exact ⟨.str y, ⟨t, rfl⟩, .str y⟩
    | _ => cases h
  | .tuple ds, u, h => by
    cases u with
    | ref a =>
      unfold datB at h
      simp only at h
      cases e : K.lookup a with
      | none => rw [e] at h; cases h
      | some o =>
        rw [e] at h
        obtain ⟨h1, h2⟩ := He.ba h
        cases ed : o.data with
        | seq its n =>
          rw [ed] at h2
          obtain ⟨h3, h4⟩ := He.ba h2
          obtain ⟨vs, r1, r2⟩ := datsB_ok h4
          exact ⟨.ref a, rfl, Rp.tup (.inr (.inr ⟨o, its, n, e, of_decide_eq_true h1, ed, of_decide_eq_true h3, r1⟩)) r2⟩
        | _ => rw [ed] at h2; cases h2
    | _ => cases h
  | .list _, u, h => by cases u <;> cases h
  | .dict _, u, h => by cases u <;> cases h
theorem datsB_ok : ∀ {ds : List PyData} {us : List Value}, datsB K ds us = true → ∃ vs, Vals vs us ∧ Rps K (fun _ => False) nilH vs ds
  | [], us, h => by
    cases us with
    | nil => exact ⟨[], .nil, .nil⟩
    | cons _ _ => cases h
  | d :: ds, us, h => by
    cases us with
    | nil => cases h
    | cons u us =>
      unfold datsB at h
      obtain ⟨h1, h2⟩ := He.ba h
      obtain ⟨v, r1, r2⟩ := datB_ok h1
      obtain ⟨vs, r3, r4⟩ := datsB_ok h2
      exact ⟨v :: vs, .cons r1 r3, .cons r2 r4⟩
end
def cstB (K : PySem.W.Frag) (c : Str × PyData) : Bool := match PySem.W.nsIn K mainGlobals c.1 with
  | some (some u) => datB K c.2 u
  | _ => false
theorem cstB_ok {h : Heap} (X : K.In h) (Gm : h.Ns mainGlobals mg) {c : Str × PyData} (q : cstB K c = true) : ∃ u w, mg c.1 = some u ∧ RelV w u ∧ Rp K (fun _ => False) nilH w c.2 := by
  unfold cstB at q
  split at q
  · rename_i u e
    obtain ⟨v, r1, r2⟩ := datB_ok q
    exact ⟨u, v, PySem.W.mg_of X Gm e, r1, r2⟩
  · cases q
/-! ### the names of another module -/
def bfB (K : PySem.W.Frag) (b : Str × String) : Bool := He.eqO (PySem.W.nsIn K mainGlobals b.1) (some (some (.builtin b.2)))
/-- all that the head tells, beside the defs -/
def headB (root : Str) (G : GT) (K : PySem.W.Frag) : Bool := noIntL K && (G.clss.all (fun C => clsB K root C.name && (C.val && !(C.name == ("__debug__" : Str)))) && (G.subs.all (subB K G.clss) && (G.consts.all (cstB K) && (G.bfs.all (bfB K) && G.frees.all fun x => (He.Fa.free x).ok K))))
theorem glob0 {h : Heap} {G : GT} {Tt : List (Addr × Str)} {lvL lv : Nat} (X : K.In h) (Gm : h.Ns mainGlobals mg) {root : Str} (c : headB root G K = true) (hf : G.fns = []) {fd : FuncData} {n q : Str} {params : Arguments} {body : List Stmt} {scope : Scope}
    (F : FunD K n q params body scope [] [] (He.ma K (He.ga K root) "__init__") fd) (D : IniD params body scope) : Glob P w K mg base G Tt lvL lv := by
  obtain ⟨_, c⟩ := He.ba c
  obtain ⟨h1, c⟩ := He.ba c
  obtain ⟨h2, c⟩ := He.ba c
  obtain ⟨h3, c⟩ := He.ba c
  obtain ⟨h4, h5⟩ := He.ba c
  refine ⟨fun i F h => (by rw [hf] at h; cases h), fun j c h => cstB_ok X Gm (List.all_eq_true.mp h3 c (List.mem_of_getElem? h)), fun j C h => ?_, fun x hx => He.free_ok X Gm (List.all_eq_true.mp h5 x hx), fun b hb => PySem.W.mg_of X Gm (He.eqO_ok (List.all_eq_true.mp h4 b hb)), fun c' c b h => subB_ok X Gm (List.all_eq_true.mp h2 _ (subOf_mem h))⟩
  obtain ⟨g1, g2⟩ := He.ba (List.all_eq_true.mp h1 C (List.mem_of_getElem? h))
  obtain ⟨g2, g3⟩ := He.ba g2
  obtain ⟨nm, v⟩ := C
  have g2 : v = true := g2
  subst g2
  exact clsB_ok X Gm g1 F D (by simpa using g3)
theorem Glob.step {G : GT} {Tt : List (Addr × Str)} {lvL lv : Nat} {F : FnS} (g : Glob P w K mg base G Tt lvL lv) (h : FnHas P w K mg base G.clss Tt lvL F) : Glob P w K mg base ⟨G.fns ++ [F], G.consts, G.clss, G.frees, G.bfs, G.subs⟩ Tt lvL lv := by
  refine ⟨fun i F' hi hl => ?_, g.consts, g.clss, g.frees, g.bfs, g.subs⟩
  rcases Nat.lt_or_ge i G.fns.length with z | z
  · rw [List.getElem?_append_left z] at hi
    exact g.fns i F' hi hl
  · rw [List.getElem?_append_right z] at hi
    have := List.mem_of_getElem? hi
    rw [List.mem_singleton] at this
    subst this
    exact h
theorem Glob.mono {G : GT} {Tt : List (Addr × Str)} {lvL lv lv' : Nat} (g : Glob P w K mg base G Tt lvL lv) (h : lv' ≤ lv) : Glob P w K mg base G Tt lvL lv' := ⟨fun i F hi hl => g.fns i F hi (Nat.le_trans hl h), g.consts, g.clss, g.frees, g.bfs, g.subs⟩
/-- the written def has no defaults, no stars -/
def plainP (params : Arguments) (ps : List Str) : Bool := params.posonlyargs.isEmpty && (decide (params.args.map (·.arg) = ps) && (params.vararg.isNone && (params.kwonlyargs.isEmpty && (params.kwarg.isNone && decide ps.Nodup))))
theorem plain_of {x q : Str} {params : Arguments} {body : List Stmt} {scope : Scope} {f : Addr} {fd : FuncData} {ps : List Str} (F : FunD K x q params body scope [] [] f fd) (h : plainP params ps = true) : PlainFd fd ps := by
  obtain ⟨oc, od, dV, kV, doc, pm, an, cdv, ct, osl, rfl, lk, hcd, hD, hK⟩ := F.ex
  obtain ⟨h1, h⟩ := He.ba h
  obtain ⟨h2, h⟩ := He.ba h
  obtain ⟨h3, h⟩ := He.ba h
  obtain ⟨h4, h⟩ := He.ba h
  obtain ⟨h5, h6⟩ := He.ba h
  rcases hD with ⟨_, rfl⟩ | ⟨e, _⟩
  · exact ⟨List.isEmpty_iff.mp h1, of_decide_eq_true h2, Option.isNone_iff_eq_none.mp h3, List.isEmpty_iff.mp h4, Option.isNone_iff_eq_none.mp h5, rfl, of_decide_eq_true h6⟩
  · exact absurd rfl e
theorem fnHas_of {x : Str} {params : Arguments} {body : List Stmt} {scope : Scope} {f : Addr} {fd : FuncData} {ps : List Str} {cs : List ClS} {Tt : List (Addr × Str)} {lvL lv : Nat} {sem : List Val → Pot → Res Val} (hm : mg x = some (.ref f)) (F : FunD K x x params body scope [] [] f fd) (hp : plainP params ps = true) (h : FnG P w K mg base cs Tt lvL lv f fd ps sem) :
    FnHas P w K mg base cs Tt lvL ⟨x, ps, lv, sem⟩ := ⟨f, fd, hm, F.kp, plain_of F hp, h⟩
/-- what a def that makes lambdas stands on -/
theorem lamCtx_of {G : GT} {Tt : List (Addr × Str)} {cs : List (Addr × Addr)} {lvL : Nat} {T : Tb} {p : Option Addr} {L : Ls} {N : List Str} {qual : Str} {scope : Scope} {f c : Addr} {fd : FuncData} {cdv : Value} {A : Around} {outer : List Env} {s : Shared} {H : Hp} {E : XK} {t : Addr}
    (hc : fd.code = cdv) (hcc : fd.code = .ref c) (hT : T.t = Tt) (hB : TabB base mg c t) (hm : (t, qual ++ ".<locals>." ++ "<lambda>") ∈ Tt) (hu : ∀ p ∈ Tt, p.1 = t → p.2 = qual ++ ".<locals>." ++ "<lambda>") : LamCtx ⟨G, T, p, L, lvL⟩ (cxOf (L2.CX P w) P w K mg base N qual scope f cdv A outer s H E) := by
  subst hT
  refine ⟨c, t, ?_, hB, ?_, ?_⟩
  · show cdv = _
    rw [← hc, hcc]
  · exact hm
  · exact hu
end
end PyD
namespace PyD
open PySem PySem.Spec PyProof.Rows L2 LamX
def iniOf : Stmt → Stmt
  | .ClassDef _ _ _ b _ _ _ _ _ _ _ => b.getD 0 (.Pass ⟨0, 0, 0, 0⟩)
  | s => s
def retOf : Stmt → Expr
  | .Return (some e) _ => e
  | _ => .Constant .none 0 ⟨0, 0, 0, 0⟩
def posOf : Stmt → Pos
  | .Return _ p => p
  | _ => ⟨0, 0, 0, 0⟩
theorem asg_ne {G : GT} {tg : Tg} {e : Ex} {ρ : List Sl} {st st' : Pot} {v : Val} : ex G (.asg tg e) ρ st ≠ .ok (.ret v) st' := by
  intro h
  simp only [ex] at h
  cases hv : ev G e ρ st with
  | exc c x s => rw [hv] at h; cases h
  | bad => rw [hv] at h; cases h
  | ok a s =>
    obtain ⟨a, k⟩ := a
    rw [hv] at h
    simp only [Res.bind] at h
    split at h
    · cases h
    · cases h
    · split at h <;> cases h
    · cases h
theorem codeRef {K : PySem.W.Frag} {d : Str × Option Str} {x q : Str} {params : Arguments} {body : List Stmt} {scope : Scope} {fd : FuncData} (F : FunD K x q params body scope [] [] (He.fAd K d) fd) : fd.code = .ref (He.cT K d).1 := by
  obtain ⟨oc, od, dV, kV, doc, pm, an, cdv, ct, osl, rfl, lk, hcd, _, _⟩ := F.ex
  obtain ⟨c, rfl⟩ := He.codeIn_ref hcd
  show Value.ref c = .ref (He.codeOf K d)
  rw [He.codeOf_eq lk rfl]
theorem nodup_map_inj {α β : Type} {f : α → β} : ∀ {l : List α} {a b : α}, (l.map f).Nodup → a ∈ l → b ∈ l → f a = f b → a = b
  | x :: r, a, b, hn, ha, hb, e => by
    rw [List.map_cons, List.nodup_cons] at hn
    rcases List.mem_cons.mp ha with h1 | h1 <;> rcases List.mem_cons.mp hb with h2 | h2
    · rw [h1, h2]
    · subst h1
      exact absurd (List.mem_map.mpr ⟨b, h2, e.symm⟩) hn.1
    · subst h2
      exact absurd (List.mem_map.mpr ⟨a, h1, e⟩) hn.1
    · exact nodup_map_inj hn.2 h1 h2 e
theorem tt_uniq {K : PySem.W.Frag} {tf : List (Str × Option Str)} {d : Str × Option Str} (hn : (tf.map fun d => (He.cT K d).2).Nodup) (hd : d ∈ tf) : ∀ q ∈ (tf.map fun d => ((He.cT K d).2, d.1 ++ ".<locals>." ++ "<lambda>") : List (Addr × Str)), q.1 = (He.cT K d).2 → q.2 = d.1 ++ ".<locals>." ++ "<lambda>" := fun q hq e => by
  obtain ⟨d', h1, h2⟩ := List.mem_map.mp hq
  subst h2
  rw [nodup_map_inj (f := fun d => (He.cT K d).2) hn h1 hd e]
end PyD
namespace PyD
open PySem PySem.Spec PyProof.Rows L2
def isVis (sc : Scope) (x : Str) : Bool := match sc.names.lookup x with
  | some .local | some .cell | some .free => true
  | _ => false
theorem vis_of {sc : Scope} {x : Str} (h : isVis sc x = true) : Vis sc x := by
  unfold isVis at h
  split at h
  · rename_i e; exact .inl e
  · rename_i e; exact .inr (.inl e)
  · rename_i e; exact .inr (.inr e)
  · cases h
def isLoc (sc : Scope) (x : Str) : Bool := match sc.names.lookup x with
  | some .local | some .cell => true
  | _ => false
theorem loc_of {sc : Scope} {x : Str} (h : isLoc sc x = true) : Loc sc x := by
  unfold isLoc at h
  split at h
  · rename_i e; exact .inl e
  · rename_i e; exact .inr e
  · cases h
def gfB (G : GT) (i : Nat) (x : Str) (lv : Nat) : Bool := match G.fns[i]? with
  | some F => F.name == x && decide (F.lv ≤ lv)
  | none => false
theorem gf_of {G : GT} {i : Nat} {x : Str} {lv : Nat} (h : gfB G i x lv = true) : ∃ F, G.fns[i]? = some F ∧ F.name = x ∧ F.lv ≤ lv := by
  unfold gfB at h
  split at h
  · rename_i F e
    simp only [Bool.and_eq_true, beq_iff_eq, decide_eq_true_eq] at h
    exact ⟨F, e, h.1, h.2⟩
  · cases h
def gkB (G : GT) (i : Nat) (x : Str) (lv n : Nat) (ks : List Str) (pm : List Nat) : Bool := match G.fns[i]? with
  | some F => F.name == x && decide (F.lv ≤ lv) && kwOk F.ps n ks pm
  | none => false
theorem gk_of {G : GT} {i : Nat} {x : Str} {lv n : Nat} {ks : List Str} {pm : List Nat} (h : gkB G i x lv n ks pm = true) : ∃ F, G.fns[i]? = some F ∧ F.name = x ∧ F.lv ≤ lv ∧ kwOk F.ps n ks pm = true := by
  unfold gkB at h
  split at h
  · rename_i F e
    simp only [Bool.and_eq_true, beq_iff_eq, decide_eq_true_eq] at h
    exact ⟨F, e, h.1.1, h.1.2, h.2⟩
  · cases h
def gcB (G : GT) (i : Nat) (x : Str) (v : Bool) : Bool := match G.clss[i]? with
  | some C => C.name == x && C.val == v
  | none => false
theorem gc_of {G : GT} {i : Nat} {x : Str} {v : Bool} (h : gcB G i x v = true) : ∃ C, G.clss[i]? = some C ∧ C.name = x ∧ C.val = v := by
  unfold gcB at h
  split at h
  · rename_i F e
    simp only [Bool.and_eq_true, beq_iff_eq] at h
    exact ⟨F, e, h.1, h.2⟩
  · cases h
def gtB (G : GT) (i : Nat) (x : Str) : Bool := match G.consts[i]? with
  | some c => c.1 == x
  | none => false
theorem gt_of {G : GT} {i : Nat} {x : Str} (h : gtB G i x = true) : ∃ d, G.consts[i]? = some (x, d) := by
  unfold gtB at h
  split at h
  · rename_i c e
    obtain ⟨n, d⟩ := c
    have h : n = x := by simpa using h
    subst h
    exact ⟨d, e⟩
  · cases h
/-- the name of a built-in thing -/
def bltB (G : GT) (sc : Scope) (x : Str) (f : Value) : Bool := decide (sc.names.lookup x = some .globalImplicit) && !(x == ("__debug__" : Str)) && ((G.frees.contains x && (bootBuiltins x == some f) && !(x == ("__name__" : Str))) || G.bfs.any fun b => b.1 == x && Value.builtin b.2 == f)
section
variable {Z : Zx} {Fe : Addr → Prop} {W : WX} {X : Cx} {lv : Nat} {a b c e : Expr} {xa xb xc : Ex} {pos p1 p2 p3 cpos apos : Pos}
theorem w_call {i : Nat} {x : Str} {es : List Expr} {xs : Exs} (g : Good Z W X lv) (hi : gfB Z.G i x lv = true) (hg : Gl X x) (hd : (x == ("__debug__" : Str)) = false) (ha : PA X (a :: es) (rdA Z W X.K X.mg xs))
    (hs : starEach (a :: es) X.env = (false, eval a X.env) :: starEach es X.env) (hpl : (backTo pos (starEach es X.env)).any (·.1) = false) : PE X (.Call (.Name x p2) (a :: es) [] pos) (rdE Z W X.K X.mg (.call i xs)) := by
  obtain ⟨F, h1, rfl, h2⟩ := gf_of hi
  exact k_call g h1 h2 hg hd ha hs hpl
theorem w_call0 {i : Nat} {x : Str} (g : Good Z W X lv) (hi : gfB Z.G i x lv = true) (hg : Gl X x) (hd : (x == ("__debug__" : Str)) = false) : PE X (.Call (.Name x p2) [] [] pos) (rdE Z W X.K X.mg (.call i .nil)) := by
  obtain ⟨F, h1, rfl, h2⟩ := gf_of hi
  exact k_call0 g h1 h2 hg hd
theorem w_callk {i : Nat} {x : Str} {es : List Expr} {xs xk : Exs} {kws : List Keyword} {ks : List Str} {pm : List Nat} (g : Good Z W X lv) (hks : (backToKw pos (keywordEach kws X.env)).filterMap (·.1) = ks) (hi : gkB Z.G i x lv xs.size ks pm = true) (hg : Gl X x) (hd : (x == ("__debug__" : Str)) = false) (ha : PA X (a :: es) (rdA Z W X.K X.mg xs))
    (hkw : PK X kws (rdA Z W X.K X.mg xk)) (hall : (backToKw pos (keywordEach kws X.env)).all (·.1.isSome) = true) (hsz : xk.size = ks.length)
    (hs : starEach (a :: es) X.env = (false, eval a X.env) :: starEach es X.env) (hpl : ((backTo pos (starEach (a :: es) X.env)).any (·.1) || (backToKw pos (keywordEach kws X.env)).any (·.1.isNone)) = false) :
    PE X (.Call (.Name x p2) (a :: es) kws pos) (rdE Z W X.K X.mg (.callk i xs xk pm)) := by
  obtain ⟨F, h1, rfl, h2, h3⟩ := gk_of hi
  exact k_callk g h1 h2 hg hd ha hkw hall hks hsz h3 hs hpl
theorem w_callk0 {i : Nat} {x : Str} {xk : Exs} {kws : List Keyword} {ks : List Str} {pm : List Nat} (g : Good Z W X lv) (hks : (backToKw pos (keywordEach kws X.env)).filterMap (·.1) = ks) (hi : gkB Z.G i x lv 0 ks pm = true) (hg : Gl X x) (hd : (x == ("__debug__" : Str)) = false)
    (hkw : PK X kws (rdA Z W X.K X.mg xk)) (hall : (backToKw pos (keywordEach kws X.env)).all (·.1.isSome) = true) (hsz : xk.size = ks.length)
    (hpl : ((backTo pos (starEach [] X.env)).any (·.1) || (backToKw pos (keywordEach kws X.env)).any (·.1.isNone)) = false) : PE X (.Call (.Name x p2) [] kws pos) (rdE Z W X.K X.mg (.callk i .nil xk pm)) := by
  obtain ⟨F, h1, rfl, h2, h3⟩ := gk_of hi
  exact k_callk0 g h1 h2 hg hd hkw hall hks hsz h3 hpl
theorem w_glb {j : Nat} {x : Str} (g : Good Z W X lv) (hj : gtB Z.G j x = true) (hg : Gl X x) (hd : (x == ("__debug__" : Str)) = false) : PE X (.Name x pos) (rdE Z W X.K X.mg (.glb j)) := by
  obtain ⟨d, h⟩ := gt_of hj
  exact k_glb (c := (x, d)) g h hg hd
theorem w_free {x : Str} {f : Value} (g : Good Z W X lv) (hg : Gl X x) (hd : (x == ("__debug__" : Str)) = false) (hf : Z.G.frees.contains x = true) (hv : bootBuiltins x = some f) (hn : (x == ("__name__" : Str)) = false) : Blt X x f :=
  ⟨hg, hd, .inl ⟨g.frees x (by simpa using hf), hv, by intro e; rw [e] at hn; simp at hn⟩⟩
theorem w_bf {x : Str} {f : String} (g : Good Z W X lv) (hg : Gl X x) (hd : (x == ("__debug__" : Str)) = false) (hf : (Z.G.bfs.any fun b => b.1 == x && b.2 == f) = true) : Blt X x (.builtin f) := by
  obtain ⟨b, h1, h2⟩ := List.any_eq_true.mp hf
  simp only [Bool.and_eq_true, beq_iff_eq] at h2
  have h3 := g.bfs b h1
  rw [h2.1, h2.2] at h3
  exact ⟨hg, hd, .inr h3⟩
theorem w_raise {c : Nat} {x : Str} (g : Good Z W X lv) (hc : gcB Z.G c x true = true) (hg : Gl X x) (hlv : 3 ≤ lv) (hs : starEach [a] X.env = (false, eval a X.env) :: starEach [] X.env) (ha : PE X a (rdE Z W X.K X.mg xa)) :
    PS X (.Raise (some (.Call (.Name x p1) [a] [] cpos)) none pos) (rdS Z Fe W X.K X.mg (.raise c (.so xa))) := by
  obtain ⟨C, h1, rfl, h2⟩ := gc_of hc
  exact s_raise g h1 h2 hg ha hlv hs
theorem w_raise0 {c : Nat} {x : Str} (g : Good Z W X lv) (hc : gcB Z.G c x false = true) (hg : Gl X x) (hlv : 3 ≤ lv) :
    PS X (.Raise (some (.Call (.Name x p1) [] [] cpos)) none pos) (rdS Z Fe W X.K X.mg (.raise c .no)) := by
  obtain ⟨C, h1, rfl, h2⟩ := gc_of hc
  exact s_raise0 g h1 h2 hg hlv
theorem t_not {x : Te} (h : PT X a (rdT Z W X.K X.mg x)) : PT X (.UnaryOp .Not a pos) (rdT Z W X.K X.mg (.not x)) := by
  refine ⟨fun pins s σ H Q I ⟨Fz, ρ, st, S, E, o⟩ => ?_⟩
  simp only [evT] at o
  exact (pt_not h).run pins s σ H Q I ⟨Fz, ρ, st, S, E, Out.mono (Out.bind o) fun b st1 F1 H1 _ ⟨e1, s1, o1⟩ => o1 F1 H1 Ext.refl s1⟩
theorem q_one_and {x : Te} (h : PT X a (rdT Z W X.K X.mg x)) : PW X (.BoolOp .And [a] pos) (rdT Z W X.K X.mg x) := pw_and1 h
theorem q_one_or {x : Te} (h : PT X a (rdT Z W X.K X.mg x)) : PW X (.BoolOp .Or [a] pos) (rdT Z W X.K X.mg x) := pw_or1 h
theorem q_and {x y : Te} {rest : List Expr} (h : PT X a (rdT Z W X.K X.mg x)) (h2 : PW X (.BoolOp .And (b :: rest) pos) (rdT Z W X.K X.mg y)) : PW X (.BoolOp .And (a :: b :: rest) pos) (rdT Z W X.K X.mg (.and x y)) := by
  refine ⟨fun wh pins s σ H Q I ⟨Fz, ρ, st, S, E, o⟩ => ?_⟩
  simp only [evT] at o
  refine (pw_and h h2).run wh pins s σ H Q I ⟨Fz, ρ, st, S, E, Out.mono (Out.bind o) fun k st1 F1 H1 _ ⟨e1, s1, o1⟩ => ?_⟩
  cases k with
  | true => exact ⟨F1, ρ, st1, s1, E.ext S e1, o1⟩
  | false => exact o1 F1 H1 Ext.refl s1
theorem q_or {x y : Te} {rest : List Expr} (h : PT X a (rdT Z W X.K X.mg x)) (h2 : PW X (.BoolOp .Or (b :: rest) pos) (rdT Z W X.K X.mg y)) : PW X (.BoolOp .Or (a :: b :: rest) pos) (rdT Z W X.K X.mg (.or x y)) := by
  refine ⟨fun wh pins s σ H Q I ⟨Fz, ρ, st, S, E, o⟩ => ?_⟩
  simp only [evT] at o
  refine (pw_or h h2).run wh pins s σ H Q I ⟨Fz, ρ, st, S, E, Out.mono (Out.bind o) fun k st1 F1 H1 _ ⟨e1, s1, o1⟩ => ?_⟩
  cases k with
  | false => exact ⟨F1, ρ, st1, s1, E.ext S e1, o1⟩
  | true => exact o1 F1 H1 Ext.refl s1
theorem t_of {t : TT} (h : PW X a t) : PT X a t := ⟨fun pins s σ H Q I q => h.run _ pins s σ H Q I q⟩
theorem e_one {op : BoolOp} {t : TE} (h : PE X a t) : PE X (.BoolOp op [a] pos) t := pe_one h
theorem e_isN {j : Nat} {p3 : Pos} (g : Good Z W X lv) (ha : PE X a (rdE Z W X.K X.mg xa)) (hm : behindInMarks .Is (.Constant .none j p3) = false) : PE X (.Compare a [.Is] [.Constant .none j p3] pos) (rdE Z W X.K X.mg (.isN xa)) := pe_cmp (c_isN g ha) hm
theorem e_notN {j : Nat} {p3 : Pos} (g : Good Z W X lv) (ha : PE X a (rdE Z W X.K X.mg xa)) (hm : behindInMarks .IsNot (.Constant .none j p3) = false) : PE X (.Compare a [.IsNot] [.Constant .none j p3] pos) (rdE Z W X.K X.mg (.notN xa)) := pe_cmp (c_notN g ha) hm
theorem t_isN {j : Nat} {p3 : Pos} (g : Good Z W X lv) (ha : PE X a (rdE Z W X.K X.mg xa)) (hm : behindInMarks .Is (.Constant .none j p3) = false) : PT X (.Compare a [.Is] [.Constant .none j p3] pos) (rdT Z W X.K X.mg (.val (.isN xa))) := k_val (pt_cmp (c_isN g ha) hm)
theorem t_notN {j : Nat} {p3 : Pos} (g : Good Z W X lv) (ha : PE X a (rdE Z W X.K X.mg xa)) (hm : behindInMarks .IsNot (.Constant .none j p3) = false) : PT X (.Compare a [.IsNot] [.Constant .none j p3] pos) (rdT Z W X.K X.mg (.val (.notN xa))) := k_val (pt_cmp (c_notN g ha) hm)
theorem t_val (ha : PE X a (rdE Z W X.K X.mg xa)) (he : ∀ whole, isTrue a X.env whole = (do let v ← whole; standAt a.pos; holding [v] (truthy v))) : PT X a (rdT Z W X.K X.mg (.val xa)) := k_val (pt_val ha he)
end
section
variable {Z : Zx} {W : WX} {X : Cx} {lv : Nat} {a : Expr} {xa : Ex} {pos p2 q1 q2 q3 : Pos}
theorem w_isLT {x n1 n2 : Str} {kk : Nat} (g : Good Z W X lv) (hx : Blt X x (.builtin "isinstance")) (h1 : Blt X n1 (.type "list")) (h2 : Blt X n2 (.type "tuple")) (ha : PE X a (rdE Z W X.K X.mg xa))
    (he : starEach [a, .Tuple [.Name n1 q1, .Name n2 q2] kk q3] X.env = (false, eval a X.env) :: starEach [.Tuple [.Name n1 q1, .Name n2 q2] kk q3] X.env) :
    PE X (.Call (.Name x p2) [a, .Tuple [.Name n1 q1, .Name n2 q2] kk q3] [] pos) (rdE Z W X.K X.mg (.bi .isLT (.cons xa .nil))) :=
  k_isiT (Ts := ["list", "tuple"]) g rfl (by simp) rfl hx (pe_tup (pa_cons (pe_B h1) (pa_cons (pe_B h2) pa_nil))) ha he rfl
end
section
variable {Z : Zx} {Fe : Addr → Prop} {W : WX} {X : Cx} {lv : Nat} {a : Expr}
open LamX
/-- the lambdas of a def, walked one after another -/
inductive LamsW (Z : Zx) (X : Cx) (lv : Nat) : List LamD → Exs → Prop
  | nil {es : Exs} : LamsW Z X lv [] es
  | cons {l : LamD} {x : Ex} {ls : List LamD} {es : Exs} : LamOk1 Z X lv l x → LamsW Z X lv ls es → LamsW Z X lv (l :: ls) (.cons x es)
theorem lamOk_of : ∀ {ls : List LamD} {es : Exs}, LamsW Z X lv ls es → LamOk Z X lv ls es
  | [], _, _ => ⟨fun k l h => by simp at h⟩
  | _ :: _, _, .cons (x := x) q r => ⟨fun k l h => by
    cases k with
    | zero =>
      have e := Option.some.inj h
      subst e
      exact ⟨x, fun ρ st => by simp only [evNth], q⟩
    | succ k =>
      obtain ⟨y, h1, h2⟩ := (lamOk_of r).ok k l (by simpa using h)
      exact ⟨y, fun ρ st => by simp only [evNth]; exact h1 ρ st, h2⟩⟩
theorem lamOk1_of {lvb : Nat} {l : LamD} {x : Ex} (g : Good Z W X lv) (hl : lvb ≤ lv) (ls : LamS X.env.scope l.scope) (bd : ∀ (q : Str) (cl : List (Str × Addr)) (pm cv ctv : Value), bindArgs (PySem.W.kla_fn "<lambda>" q l.params l.body l.scope cl pm cv ctv) ⟨[], []⟩ = pure [])
    (run : ∀ (f c' : Addr) (A : Around) (outer : List Env) (s : Shared) (H : Hp) (E : XK) (T : Tb) (W : WX), Good ⟨Z.G, T, Z.p, noL, Z.lvL⟩ W (lamCx X A outer s H E l.scope f c') lvb → PE (lamCx X A outer s H E l.scope f c') l.body (rdE ⟨Z.G, T, Z.p, noL, Z.lvL⟩ W X.K X.mg x)) : LamOk1 Z X lvb l x :=
  ⟨ls, bd, fun f c' A outer s H E T W hT hr tk => run f c' A outer s H E T W ⟨rfl, g.nd, hr, fun i F h hv => (by
    have q := g.fns i F h (Nat.le_trans hv hl)
    rw [← hT] at q
    exact q), g.consts, g.clss, g.frees, g.bfs, g.subs, tk, fun f m z => z.elim⟩⟩
/-- a name's slot -/
def idxS : List Str → Str → Nat
  | [], _ => 0
  | x :: r, y => if x == y then 0 else idxS r y + 1
theorem w_heard {lvb i fi : Nat} {lams : List LamD} {es : Exs} {x y fname : Str} {scope : Scope} {p1 p2 p3 p4 p5 pos : Pos} (g : Good Z W X lv) (hL : Z.lvL = lvb + 1) (L : LamOk Z X lvb lams es) (hlo : Z.L.lo = loOf lams X) (hi : gfB Z.G fi fname lv = true) (hg : ∀ (C : Addr) (cl : List (Str × Addr)), (compEnvC scope cl C X.env).scope.names.lookup fname = some .globalImplicit)
    (hd : (fname == ("__debug__" : Str)) = false) (hxs : X.N[i]? = some x) (hvx : Vis X.env.scope x) (hdx : (x == ("__debug__" : Str)) = false) (hcx : (x == ("__classdict__" : Str)) = false) (hy : X.N[idxS X.N y]? = some y) (ok : BlkOk X.N X.env.scope scope [(y, idxS X.N y)])
    (hgy : ∀ (s : Shared) (H : Hp) (C : Addr) (cl : List (Str × Addr)) (fp : List Addr), PG (X.blk s H scope (compEnvC scope cl C X.env) fp) (.Name y p3) (gName (idxS X.N y))) (hvy : ∀ (C : Addr) (cl : List (Str × Addr)), Vis (compEnvC scope cl C X.env).scope y) (hdy : (y == ("__debug__" : Str)) = false) (hcy : (y == ("__classdict__" : Str)) = false)
    (hs : ∀ z, foldedSetIterable (.Name x p4) X.env z = pure z) : PE X (.ListComp (.Call (.Name fname p1) [.Name y p2] [] p5) [⟨.Name y p3, .Name x p4, [], 0⟩] scope pos) (rdE Z W X.K X.mg (.heard fi i es)) := by
  obtain ⟨F, h1, rfl, h2⟩ := gf_of hi
  exact k_heard g hL L hlo h1 h2 hg hd hxs hvx hdx hcx hy ok hgy hvy hdy hcy hs
theorem w_heard1 {lvb fi : Nat} {params : Arguments} {body : Expr} {scope : Scope} {x : Ex} {fname : Str} {p1 lpos pos : Pos} (g : Good Z W X lv) (C : LamCtx Z X) (hL : Z.lvL = lvb + 1) (L : LamOk1 Z X lvb ⟨params, body, scope⟩ x) (hi : gfB Z.G fi fname lv = true) (hg : Gl X fname) (hd : (fname == ("__debug__" : Str)) = false)
    (hdef : defaultsOf params X.env = ([], [])) : PE X (.Call (.Name fname p1) [.Lambda params body scope lpos] [] pos) (rdE Z W X.K X.mg (.heard1 fi x)) := by
  obtain ⟨F, h1, rfl, h2⟩ := gf_of hi
  exact k_heard1 (l := ⟨params, body, scope⟩) g C hL L h1 h2 hg hd hdef
theorem w_potCall {r p : Nat} {x y : Str} {es : List Expr} {xs : Exs} {p1 p2 pos pos2 : Pos} (g : Good Z W X lv) (hp0 : Z.p = none) (hr : gfB Z.G r x lv = true) (hp : gfB Z.G p y lv = true) (hP : ∀ F, Z.G.fns[p]? = some F → PotHas X.prog X.w X.K X.mg X.base Z.T.t F) (hgr : Gl X x) (hgp : Gl X y) (hdr : (x == ("__debug__" : Str)) = false) (hdp : (y == ("__debug__" : Str)) = false)
    (ha : PA X (a :: es) (rdA Z W X.K X.mg xs)) (hs : starEach (a :: es) X.env = (false, eval a X.env) :: starEach es X.env) (hpl : (backTo pos2 (starEach es X.env)).any (·.1) = false) : PE X (.Call (.Name x p1) [.Call (.Name y p2) (a :: es) [] pos2] [] pos) (rdE Z W X.K X.mg (.potCall r p xs)) := by
  obtain ⟨F, h1, rfl, h2⟩ := gf_of hr
  obtain ⟨F2, h3, rfl, h4⟩ := gf_of hp
  exact k_potCall g hp0 h1 h3 h2 h4 (hP F2 h3) hgr hgp hdr hdp ha hs hpl
theorem w_lo {lams : List LamD} {k : Nat} {params : Arguments} {body : Expr} {scope : Scope} (hlo : Z.L.lo = loOf lams X) (hk : lams[k]? = some ⟨params, body, scope⟩) (pm : Value) (c' : Addr) (ctv : Value) :
    Z.L.lo (PySem.W.kla_obj "<lambda>" (X.env.qual ++ "<lambda>") params body scope (cloFrom X.env.cells scope.names []) pm c' ctv) c' (X.env.qual ++ "<lambda>") k := by
  rw [hlo]
  exact ⟨_, pm, ctv, hk, rfl, rfl⟩
end
/-- a def's lambdas, by their places -/
def subSt : Stmt → Nat → List Stmt
  | .If _ a _ _, 0 => a
  | .If _ _ b _, _ => b
  | .For _ _ a _ _, _ => a
  | .While _ a _ _, _ => a
  | _, _ => []
def stAt : List Stmt → List Nat → Stmt
  | b, [i] => b.getD i (.Pass ⟨0, 0, 0, 0⟩)
  | b, i :: k :: r => stAt (subSt (b.getD i (.Pass ⟨0, 0, 0, 0⟩)) k) r
  | _, [] => .Pass ⟨0, 0, 0, 0⟩
def lamOfS : Stmt → LamD
  | .Assign _ (.List [.Lambda ps b sc _] _) _ => ⟨ps, b, sc⟩
  | .Expr (.Call _ [.Lambda ps b sc _] _ _) _ => ⟨ps, b, sc⟩
  | _ => ⟨⟨[], [], none, [], [], none, []⟩, .Constant .none 0 ⟨0, 0, 0, 0⟩, ⟨.function, [], false, false, []⟩⟩
section
variable {Z : Zx} {Fe : Addr → Prop} {W : WX} {X : Cx} {lv : Nat}
theorem w_lc {elt tg iter : Expr} {ifs : List Expr} {scope : Scope} {pos : Pos} {xi : It} {xc : Ot} {xe : Ex} {t : Tg} {own : List (Str × Nat)} (g : Good Z W X lv) (hi : PI X tg iter (rdI Z W X.K X.mg xi)) (ok : BlkOk X.N X.env.scope scope own) (hix : ∀ i ∈ t.ixs, i ∈ own.map (·.2))
    (hg : ∀ (s : Shared) (H : Hp) (C : Addr) (cl : List (Str × Addr)) (fp : List Addr), Good Z.blk W0 (X.blk s H scope (compEnvC scope cl C X.env) fp) lv → PG (X.blk s H scope (compEnvC scope cl C X.env) fp) tg (gTg X.K t))
    (ht : ∀ (s : Shared) (H : Hp) (C : Addr) (cl : List (Str × Addr)) (fp : List Addr), Good Z.blk W0 (X.blk s H scope (compEnvC scope cl C X.env) fp) lv → PTs (X.blk s H scope (compEnvC scope cl C X.env) fp) ifs (rdOt Z.blk W0 X.K X.mg xc))
    (he : ∀ (s : Shared) (H : Hp) (C : Addr) (cl : List (Str × Addr)) (fp : List Addr), Good Z.blk W0 (X.blk s H scope (compEnvC scope cl C X.env) fp) lv → PE (X.blk s H scope (compEnvC scope cl C X.env) fp) elt (rdE Z.blk W0 X.K X.mg xe)) (hs : ∀ x, foldedSetIterable iter X.env x = pure x) :
    PE X (.ListComp elt [⟨tg, iter, ifs, 0⟩] scope pos) (rdE Z W X.K X.mg (.lc t xi xc xe own)) :=
  k_lc g hi ok hix (fun s H C cl fp => hg s H C cl fp (g.blk ..)) (fun s H C cl fp => ht s H C cl fp (g.blk ..)) (fun s H C cl fp => he s H C cl fp (g.blk ..)) hs
theorem w_setL {i : Nat} {y : Str} {py spos pos : Pos} {elt tg iter : Expr} {ifs : List Expr} {scope : Scope} {own : List (Str × Nat)} {xi : It} {xc : Ot} {xe : Ex} {t : Tg} {x : Sm} (g : Good Z W X lv) (hy : X.N[i]? = some y) (hyl : X.env.scope.names.lookup y = some .local)
    (hsw : swapsWith (.ListComp elt [⟨tg, iter, ifs, 0⟩] scope pos) (some (.Name y py)) spos.line X.env = pure true) (hi : PI X tg iter (rdI Z W X.K X.mg xi)) (ok : BlkOk X.N X.env.scope scope own) (hix : ∀ i ∈ t.ixs, i ∈ own.map (·.2))
    (hg : ∀ (s : Shared) (H : Hp) (C : Addr) (cl : List (Str × Addr)) (fp : List Addr), Good Z.blk W0 (X.blk s H scope (compEnvC scope cl C X.env) fp) lv → PG (X.blk s H scope (compEnvC scope cl C X.env) fp) tg (gTg X.K t))
    (ht : ∀ (s : Shared) (H : Hp) (C : Addr) (cl : List (Str × Addr)) (fp : List Addr), Good Z.blk W0 (X.blk s H scope (compEnvC scope cl C X.env) fp) lv → PTs (X.blk s H scope (compEnvC scope cl C X.env) fp) ifs (rdOt Z.blk W0 X.K X.mg xc))
    (he : ∀ (s : Shared) (H : Hp) (C : Addr) (cl : List (Str × Addr)) (fp : List Addr), Good Z.blk W0 (X.blk s H scope (compEnvC scope cl C X.env) fp) lv → PE (X.blk s H scope (compEnvC scope cl C X.env) fp) elt (rdE Z.blk W0 X.K X.mg xe)) (hs : ∀ x, foldedSetIterable iter X.env x = pure x)
    (rd : ∀ D σ H, rdS Z Fe W X.K X.mg x D σ H → tAsg (rdE Z W X.K X.mg (.lc t xi xc xe own)) (gName i) D σ H) : PS X (.Assign [.Name y py] (.ListComp elt [⟨tg, iter, ifs, 0⟩] scope pos) spos) (rdS Z Fe W X.K X.mg x) :=
  s_setL g hy hyl hsw hi ok hix (fun s H C cl fp => hg s H C cl fp (g.blk ..)) (fun s H C cl fp => ht s H C cl fp (g.blk ..)) (fun s H C cl fp => he s H C cl fp (g.blk ..)) hs rd
end
section
variable {Z : Zx} {Fe : Addr → Prop} {W : WX} {X : Cx} {lv : Nat} {a b : Expr} {xa xb : Ex} {pos p2 : Pos}
/-! ### rules whose side conditions are looked up -/
theorem r_v {i : Nat} {x : Str} (g : Good Z W X lv) (hN : X.N[i]? = some x := by exact rfl) (hv : isVis X.env.scope x = true := by exact rfl) (hd : (x == ("__debug__" : Str)) = false := by exact rfl) (hcd : (x == ("__classdict__" : Str)) = false := by exact rfl) : PE X (.Name x pos) (rdE Z W X.K X.mg (.var i)) := k_var g hN (vis_of hv) hd hcd
theorem r_b {x : Str} {bb : Bi} {f : Value} {es : List Expr} {xs : Exs} (g : Good Z W X lv) (ha : PA X (a :: es) (rdA Z W X.K X.mg xs)) (hf : biV bb = some f := by exact rfl) (hg : Gl X x := by exact rfl) (hd : (x == ("__debug__" : Str)) = false := by exact rfl) (hfr : Z.G.frees.contains x = true := by exact rfl) (hv : bootBuiltins x = some f := by exact rfl) (hn : (x == ("__name__" : Str)) = false := by exact rfl)
    (he : starEach (a :: es) X.env = (false, eval a X.env) :: starEach es X.env := by exact rfl) (hpl : (backTo pos (starEach es X.env)).any (·.1) = false := by exact rfl) : PE X (.Call (.Name x p2) (a :: es) [] pos) (rdE Z W X.K X.mg (.bi bb xs)) := k_bi g hf (w_free g hg hd hfr hv hn) ha he hpl
theorem r_c {es : List Expr} {xs : Exs} (g : Good Z W X lv) (ha : PE X a (rdE Z W X.K X.mg xa)) (hr : PA X es (rdA Z W X.K X.mg xs)) (hs : starEach (a :: es) X.env = (false, eval a X.env) :: starEach es X.env := by exact rfl) : PA X (a :: es) (rdA Z W X.K X.mg (.cons xa xs)) := a_cons g ha hr hs
theorem r_a {i : Nat} {y : Str} {py : Pos} (g : Good Z W X lv) (ha : PE X a (rdE Z W X.K X.mg xa)) (hy : X.N[i]? = some y := by exact rfl) (hx : isLoc X.env.scope y = true := by exact rfl) (hf : X.fn y = true := by exact rfl) (hs : swapsWith a (some (.Name y py)) pos.line X.env = pure false := by exact rfl) : PS X (.Assign [.Name y py] a pos) (rdS Z Fe W X.K X.mg (.asg (.nm i) xa)) :=
  s_setG g.nd hy (loc_of hx) (.inl hf) ha hs (fun _ _ _ => asg_read)
theorem r_f {i : Nat} {x : Str} {es : List Expr} {xs : Exs} (g : Good Z W X lv) (ha : PA X (a :: es) (rdA Z W X.K X.mg xs)) (hi : gfB Z.G i x lv = true := by exact rfl) (hg : Gl X x := by exact rfl) (hd : (x == ("__debug__" : Str)) = false := by exact rfl)
    (hs : starEach (a :: es) X.env = (false, eval a X.env) :: starEach es X.env := by exact rfl) (hpl : (backTo pos (starEach es X.env)).any (·.1) = false := by exact rfl) : PE X (.Call (.Name x p2) (a :: es) [] pos) (rdE Z W X.K X.mg (.call i xs)) := w_call g hi hg hd ha hs hpl
theorem r_i (g : Good Z W X lv) (ha : PE X a (rdE Z W X.K X.mg xa)) (hb : PE X b (rdE Z W X.K X.mg xb)) (hs : PlainIx b := by exact fun _ _ => rfl) : PE X (.Subscript a b pos) (rdE Z W X.K X.mg (.idx xa xb)) := k_idx g ha hb hs
theorem r_t {o : Co} (g : Good Z W X lv) (ha : PE X a (rdE Z W X.K X.mg xa)) (hb : PE X b (rdE Z W X.K X.mg xb)) (hm : behindInMarks (opC o) b = false := by exact rfl) : PT X (.Compare a [opC o] [b] pos) (rdT Z W X.K X.mg (.val (.cmp o xa xb))) := k_cmpT g ha hb hm
end
end PyD
namespace PyD
open PySem PySem.Spec PyProof.Rows L2
/-! ### how results go on -/
def bindB {β : Type} (r : Ev) (f : Bool → Pot → Res β) : Res β := r.bindD fun x st => match x with
  | .bool b => f b st
  | _ => .bad
def bindI {β : Type} (r : Ev) (f : Int → Pot → Res β) : Res β := r.bindD fun x st => match x with
  | .int b => f b st
  | _ => .bad
def seqF (r : Res Fl) (k : List Sl → Pot → Res Fl) : Res Fl := r.bind fun f st => match f with
  | .nx ρ => k ρ st
  | f => .ok f st
/-- a row of statements, behind one -/
def exsK (G : GT) (b : Sms) (r : Res Fl) : Res Fl := seqF r fun ρ st => exs G b ρ st
def finR (r : Res Fl) : Res Val := r.bind fun f st => match f with
    | .nx _ => .ok (.d .none) st
    | .ret v => .ok v st
    | _ => .bad
/-- a value that is no own list -/
def bindC {β : Type} (r : Ev) (f : Val → Pot → Res β) : Res β := r.bind fun v st => match v with
  | (_, .ow) => .bad
  | (v, _) => f v st
section
variable {α β : Type} {st : Pot} {c : Prop} [Decidable c]
@[simp] theorem bindB_ok {b : Bool} {k : Kd} {f : Bool → Pot → Res β} : bindB (.ok (.d (.bool b), k) st) f = f b st := rfl
@[simp] theorem bindB_exc {n : Nat} {x : Option PyData} {f : Bool → Pot → Res β} : bindB (.exc n x st) f = .exc n x st := rfl
@[simp] theorem bindB_bad {f : Bool → Pot → Res β} : bindB .bad f = .bad := rfl
@[simp] theorem bindB_ite {a b : Ev} {f : Bool → Pot → Res β} : bindB (if c then a else b) f = if c then bindB a f else bindB b f := by split <;> rfl
@[simp] theorem bindI_ok {b : Int} {k : Kd} {f : Int → Pot → Res β} : bindI (.ok (.d (.int b), k) st) f = f b st := rfl
@[simp] theorem bindI_ite {a b : Ev} {f : Int → Pot → Res β} : bindI (if c then a else b) f = if c then bindI a f else bindI b f := by split <;> rfl
@[simp] theorem seqF_nx {ρ : List Sl} {k : List Sl → Pot → Res Fl} : seqF (.ok (.nx ρ) st) k = k ρ st := rfl
@[simp] theorem seqF_ret {v : Val} {k : List Sl → Pot → Res Fl} : seqF (.ok (.ret v) st) k = .ok (.ret v) st := rfl
@[simp] theorem seqF_brk {ρ : List Sl} {k : List Sl → Pot → Res Fl} : seqF (.ok (.brk ρ) st) k = .ok (.brk ρ) st := rfl
@[simp] theorem seqF_ct {ρ : List Sl} {k : List Sl → Pot → Res Fl} : seqF (.ok (.ct ρ) st) k = .ok (.ct ρ) st := rfl
@[simp] theorem seqF_exc {n : Nat} {x : Option PyData} {k : List Sl → Pot → Res Fl} : seqF (.exc n x st) k = .exc n x st := rfl
@[simp] theorem seqF_bad {k : List Sl → Pot → Res Fl} : seqF .bad k = .bad := rfl
@[simp] theorem seqF_ite {a b : Res Fl} {k : List Sl → Pot → Res Fl} : seqF (if c then a else b) k = if c then seqF a k else seqF b k := by split <;> rfl
@[simp] theorem exsK_nx {G : GT} {b : Sms} {ρ : List Sl} : exsK G b (.ok (.nx ρ) st) = exs G b ρ st := rfl
@[simp] theorem exsK_ret {G : GT} {b : Sms} {v : Val} : exsK G b (.ok (.ret v) st) = .ok (.ret v) st := rfl
@[simp] theorem exsK_brk {G : GT} {b : Sms} {ρ : List Sl} : exsK G b (.ok (.brk ρ) st) = .ok (.brk ρ) st := rfl
@[simp] theorem exsK_ct {G : GT} {b : Sms} {ρ : List Sl} : exsK G b (.ok (.ct ρ) st) = .ok (.ct ρ) st := rfl
@[simp] theorem exsK_exc {G : GT} {b : Sms} {n : Nat} {x : Option PyData} : exsK G b (.exc n x st) = .exc n x st := rfl
@[simp] theorem exsK_bad {G : GT} {b : Sms} : exsK G b .bad = .bad := rfl
@[simp] theorem exsK_ite {G : GT} {b : Sms} {x y : Res Fl} : exsK G b (if c then x else y) = if c then exsK G b x else exsK G b y := by split <;> rfl
@[simp] theorem finR_nx {ρ : List Sl} : finR (.ok (.nx ρ) st) = .ok (.d .none) st := rfl
@[simp] theorem finR_ret {v : Val} : finR (.ok (.ret v) st) = .ok v st := rfl
@[simp] theorem finR_exc {n : Nat} {x : Option PyData} : finR (.exc n x st) = .exc n x st := rfl
@[simp] theorem finR_bad : finR .bad = .bad := rfl
@[simp] theorem finR_ite {a b : Res Fl} : finR (if c then a else b) = if c then finR a else finR b := by split <;> rfl
@[simp] theorem bindC_cl {v : Val} {f : Val → Pot → Res β} : bindC (.ok (v, .cl) st) f = f v st := rfl
@[simp] theorem bindC_fr {v : Val} {f : Val → Pot → Res β} : bindC (.ok (v, .fr) st) f = f v st := rfl
@[simp] theorem bindC_kd {v : Val} {d : PyData} {f : Val → Pot → Res β} : bindC (.ok (v, kd d) st) f = f v st := by cases d <;> rfl
@[simp] theorem bindC_exc {n : Nat} {x : Option PyData} {f : Val → Pot → Res β} : bindC (.exc n x st) f = .exc n x st := rfl
@[simp] theorem bindC_bad {f : Val → Pot → Res β} : bindC .bad f = .bad := rfl
@[simp] theorem bindC_ite {a b : Ev} {f : Val → Pot → Res β} : bindC (if c then a else b) f = if c then bindC a f else bindC b f := by split <;> rfl
@[simp] theorem bind_ite' {a b : Res α} {f : α → Pot → Res β} : (if c then a else b).bind f = if c then a.bind f else b.bind f := by split <;> rfl
@[simp] theorem bindD_ite {a b : Ev} {f : PyData → Pot → Res β} : (if c then a else b : Ev).bindD f = if c then a.bindD f else b.bindD f := by split <;> rfl
@[simp] theorem noExc_ite {a b : Res α} : noExc (if c then a else b) = if c then noExc a else noExc b := by split <;> rfl
@[simp] theorem flatR_ite {a b : Res Val} : flatR (if c then a else b) = if c then flatR a else flatR b := by split <;> rfl
@[simp] theorem okC_ite {a b : Option PyData} : okC (if c then a else b) st = if c then okC a st else okC b st := by split <;> rfl
@[simp] theorem okK_ite {a b : Option PyData} : okK (if c then a else b) st = if c then okK a st else okK b st := by split <;> rfl
end
/-! ### the evaluator, case by case -/
/-- a turn of a loop -/
def forTurn (G : GT) (tg : Tg) (b : Sms) (x : PyData) (ρ : List Sl) (st : Pot) : Res Fl := match bindT tg x ρ with
      | some ρ => exs G b ρ st
      | none => .bad
section
variable {α β : Type} {G : GT} {ρ : List Sl} {st : Pot} {a : α} {f : α → Pot → Res β} {e e1 e2 e3 : Ex} {es : Exs} {t t1 t2 : Te} {b b1 b2 : Sms} {s : Sm}
@[simp] theorem bind_ok' : (Res.ok a st).bind f = f a st := rfl
@[simp] theorem bind_exc' {c : Nat} {x : Option PyData} : (Res.exc c x st : Res α).bind f = .exc c x st := rfl
@[simp] theorem bind_bad' : (Res.bad : Res α).bind f = .bad := rfl
@[simp] theorem bindD_ok {x : PyData} {k : Kd} {f : PyData → Pot → Res β} : Res.bindD (.ok (.d x, k) st) f = f x st := rfl
@[simp] theorem bindD_exc {c : Nat} {x : Option PyData} {f : PyData → Pot → Res β} : Res.bindD (.exc c x st) f = .exc c x st := rfl
@[simp] theorem bindD_bad {f : PyData → Pot → Res β} : Res.bindD .bad f = .bad := rfl
@[simp] theorem okD_eq {d : PyData} : okD d st = .ok (.d d, .cl) st := rfl
@[simp] theorem okK_some {d : PyData} : okK (some d) st = .ok (.d d, kd d) st := rfl
@[simp] theorem okK_none : okK none st = .bad := rfl
@[simp] theorem okC_some {d : PyData} : okC (some d) st = .ok (.d d, .cl) st := rfl
@[simp] theorem okC_none : okC none st = .bad := rfl
@[simp] theorem kd_list {xs : List PyData} : kd (.list xs) = .fr := rfl
@[simp] theorem kd_tuple {xs : List PyData} : kd (.tuple xs) = .cl := rfl
@[simp] theorem kd_int {i : Int} : kd (.int i) = .cl := rfl
@[simp] theorem kd_bool {i : Bool} : kd (.bool i) = .cl := rfl
@[simp] theorem kd_none : kd .none = .cl := rfl
@[simp] theorem kd_str {i : Str} : kd (.str i) = .cl := rfl
@[simp] theorem kd_dict {i : List (PyData × PyData)} : kd (.dict i) = .cl := rfl
@[simp] theorem isCl_cl {v : Val} : isCl (v, .cl) = true := rfl
@[simp] theorem isCl_fr {v : Val} : isCl (v, .fr) = true := rfl
@[simp] theorem isCl_ow {v : Val} : isCl (v, .ow) = false := rfl
theorem kd_ne {d : PyData} : kd d ≠ .ow := by cases d <;> exact fun h => by cases h
@[simp] theorem isCl_kd {v : Val} {d : PyData} : isCl (v, kd d) = true := by cases d <;> rfl
@[simp] theorem ev_var {i : Nat} : ev G (.var i) ρ st = match ρ[i]? with
    | some (.v x) => .ok (x, .cl) st
    | some (.own ds) => .ok (.d (.list ds), .ow) st
    | _ => .bad := by simp only [ev] <;> rfl
@[simp] theorem ev_int {i : Int} : ev G (.cst (.int i)) ρ st = .ok (.d (.int i), .cl) st := by simp only [ev] <;> rfl
@[simp] theorem ev_bool {i : Bool} : ev G (.cst (.bool i)) ρ st = .ok (.d (.bool i), .cl) st := by simp only [ev] <;> rfl
@[simp] theorem ev_none : ev G (.cst .none) ρ st = .ok (.d .none, .cl) st := by simp only [ev] <;> rfl
@[simp] theorem ev_str {i : Str} : ev G (.cst (.str i)) ρ st = .ok (.d (.str i), .cl) st := by simp only [ev] <;> rfl
@[simp] theorem ev_glb {j : Nat} : ev G (.glb j) ρ st = match G.consts[j]? with
    | some (_, d) => okD d st
    | none => .bad := by simp only [ev] <;> rfl
@[simp] theorem ev_bin {o : Bo} : ev G (.bin o e1 e2) ρ st = (ev G e1 ρ st).bindD fun x st => (ev G e2 ρ st).bindD fun y st => okK (binD o x y) st := by simp only [ev] <;> rfl
@[simp] theorem ev_neg : ev G (.neg e) ρ st = (ev G e ρ st).bindD fun x st => match x with
    | .int i => okD (.int (-i)) st
    | _ => .bad := by simp only [ev] <;> rfl
@[simp] theorem ev_nott : ev G (.nott e) ρ st = bindB (ev G e ρ st) fun b st => okD (.bool (!b)) st := by simp only [ev] <;> rfl
@[simp] theorem ev_ite : ev G (.ite t e1 e2) ρ st = (evT G t ρ st).bind fun k st => if k then ev G e1 ρ st else ev G e2 ρ st := by
  simp only [ev]; congr 1; funext k st; cases k <;> rfl
@[simp] theorem ev_and : ev G (.and e1 e2) ρ st = bindB (ev G e1 ρ st) fun c st => if c then ev G e2 ρ st else okD (.bool false) st := by
  simp only [ev, bindB]; congr 1; funext x st; cases x <;> try rfl
  rename_i c; cases c <;> rfl
@[simp] theorem ev_or : ev G (.or e1 e2) ρ st = bindB (ev G e1 ρ st) fun c st => if c then okD (.bool true) st else ev G e2 ρ st := by
  simp only [ev, bindB]; congr 1; funext x st; cases x <;> try rfl
  rename_i c; cases c <;> rfl
@[simp] theorem ev_cmp {o : Co} : ev G (.cmp o e1 e2) ρ st = (ev G e1 ρ st).bindD fun x st => (ev G e2 ρ st).bindD fun y st => okC ((cmpD o x y).map .bool) st := by simp only [ev] <;> rfl
@[simp] theorem ev_cmp2 {o o' : Co} : ev G (.cmp2 o o' e1 e2 e3) ρ st = (ev G e1 ρ st).bindD fun x st => (ev G e2 ρ st).bindD fun y st => match cmpD o x y with
    | some c => if c then (ev G e3 ρ st).bindD fun z st => okC ((cmpD o' y z).map .bool) st else okD (.bool false) st
    | none => .bad := by
  simp only [ev]; congr 1; funext x st; congr 1; funext y st
  cases cmpD o x y with
  | none => rfl
  | some c => cases c <;> rfl
@[simp] theorem ev_isN : ev G (.isN e) ρ st = (ev G e ρ st).bindD fun x st => okD (.bool (isNoneD x)) st := by simp only [ev] <;> rfl
@[simp] theorem ev_notN : ev G (.notN e) ρ st = (ev G e ρ st).bindD fun x st => okD (.bool (!isNoneD x)) st := by simp only [ev] <;> rfl
@[simp] theorem ev_tup : ev G (.tup es) ρ st = (evs G es ρ st).bind fun as st => if as.all isCl && decide (as.length ≤ 1000) then okC ((dats (vals as)).map .tuple) st else .bad := by simp only [ev] <;> rfl
@[simp] theorem ev_lst : ev G (.lst es) ρ st = (evs G es ρ st).bind fun as st => if as.all isCl && decide (as.length ≤ 1000) then okK ((dats (vals as)).map .list) st else .bad := by simp only [ev] <;> rfl
@[simp] theorem ev_dct : ev G .dct ρ st = .ok (.d (.dict []), .cl) st := by simp only [ev] <;> rfl
@[simp] theorem ev_call {f : Nat} : ev G (.call f es) ρ st = (evs G es ρ st).bind fun as st => callG G f as st := by simp only [ev] <;> rfl
@[simp] theorem ev_callk {f : Nat} {ks : Exs} {pm : List Nat} : ev G (.callk f es ks pm) ρ st = (evs G es ρ st).bind fun as st => (evs G ks ρ st).bind fun bs st => callG G f (permd pm (as ++ bs)) st := by simp only [ev] <;> rfl
@[simp] theorem ev_callL {i : Nat} : ev G (.callL i) ρ st = match ρ[i]? with
    | some (.v (.lam m)) => (m st).bind fun d st => okD d st
    | _ => .bad := by simp only [ev] <;> rfl
@[simp] theorem ev_bi {o : Bi} : ev G (.bi o es) ρ st = (evs G es ρ st).bind fun as st => okK ((dats (vals as)).bind (biD o)) st := by simp only [ev] <;> rfl
theorem ev_idx_ : ev G (.idx e1 e2) ρ st = if isPot e1 ρ then (ev G e2 ρ st).bindD fun y st => match y with
        | .int 0 => okD (.int st.1) st
        | .int 1 => okD (.int st.2) st
        | _ => .bad
      else (ev G e1 ρ st).bindD fun x st => (ev G e2 ρ st).bindD fun y st => okC (idxD x y) st := by simp only [ev] <;> rfl
@[simp] theorem ev_idx : ev G (.idx e1 e2) ρ st = if isPot e1 ρ then bindI (ev G e2 ρ st) fun i st => match i with
        | 0 => okD (.int st.1) st
        | 1 => okD (.int st.2) st
        | _ => .bad
      else (ev G e1 ρ st).bindD fun x st => (ev G e2 ρ st).bindD fun y st => okC (idxD x y) st := by
  rw [ev_idx_]
  split
  · congr 1; funext y st
    cases y <;> try rfl
    rename_i i
    dsimp only
    split <;> rename_i h
    · cases h; rfl
    · cases h; rfl
    · split <;> simp_all
  · rfl
@[simp] theorem ev_slc {lo hi : Ox} : ev G (.slc e lo hi) ρ st = (ev G e ρ st).bindD fun x st => (evO G lo ρ st).bind fun l st => (evO G hi ρ st).bind fun h st => okK (slcD x l h) st := by simp only [ev] <;> rfl
@[simp] theorem ev_rev : ev G (.rev e) ρ st = (ev G e ρ st).bindD fun x st => okK (revD x) st := by simp only [ev] <;> rfl
@[simp] theorem ev_lrg {k : Bool} {lo hi : Ox} : ev G (.lrg k lo hi) ρ st = (evO G lo ρ st).bind fun x st => (evO G hi ρ st).bind fun y st => (rgR x y st).bind fun r st => okK (some (if k then .tuple (rgD r.1 r.2) else .list (rgD r.1 r.2))) st := by simp only [ev] <;> rfl
@[simp] theorem evs_nil : evs G .nil ρ st = .ok [] st := by simp only [evs] <;> rfl
@[simp] theorem evs_cons : evs G (.cons e es) ρ st = (ev G e ρ st).bind fun v st => (evs G es ρ st).bind fun vs st => .ok (v :: vs) st := by simp only [evs] <;> rfl
@[simp] theorem evO_no : evO G .no ρ st = .ok none st := by simp only [evO] <;> rfl
@[simp] theorem evO_so : evO G (.so e) ρ st = bindI (ev G e ρ st) fun i st => .ok (some (.int i)) st := by simp only [evO] <;> rfl
@[simp] theorem evOt_no : evOt G .no ρ st = .ok true st := by simp only [evOt] <;> rfl
@[simp] theorem evOt_so : evOt G (.so t) ρ st = evT G t ρ st := by simp only [evOt] <;> rfl
@[simp] theorem evT_not : evT G (.not t) ρ st = (evT G t ρ st).bind fun b st => .ok (!b) st := by simp only [evT] <;> rfl
@[simp] theorem evT_and : evT G (.and t1 t2) ρ st = (evT G t1 ρ st).bind fun k st => if k then evT G t2 ρ st else .ok false st := by
  simp only [evT]; congr 1; funext k st; cases k <;> rfl
@[simp] theorem evT_or : evT G (.or t1 t2) ρ st = (evT G t1 ρ st).bind fun k st => if k then .ok true st else evT G t2 ρ st := by
  simp only [evT]; congr 1; funext k st; cases k <;> rfl
@[simp] theorem evT_val : evT G (.val e) ρ st = bindB (ev G e ρ st) fun b st => .ok b st := by simp only [evT] <;> rfl
@[simp] theorem evI_seq : evI G (.seq e) ρ st = (ev G e ρ st).bind fun v st => seqR v st := by simp only [evI] <;> rfl
@[simp] theorem evI_rng {lo hi : Ox} : evI G (.rng lo hi) ρ st = (evO G lo ρ st).bind fun x st => (evO G hi ρ st).bind fun y st => (rgR x y st).bind fun r st => .ok (rgD r.1 r.2, false) st := by simp only [evI] <;> rfl
@[simp] theorem evI_zip : evI G (.zip e1 e2) ρ st = (ev G e1 ρ st).bind fun x st => (ev G e2 ρ st).bind fun y st => (seqR x st).bind fun x st => (seqR y st).bind fun y st => .ok (zipD x.1 y.1, x.2 || y.2) st := by simp only [evI] <;> rfl
@[simp] theorem evI_enum : evI G (.enum e) ρ st = (ev G e ρ st).bind fun v st => (seqR v st).bind fun x st => .ok (enumD 0 x.1, x.2) st := by simp only [evI] <;> rfl
@[simp] theorem exs_nil : exs G .nil ρ st = .ok (.nx ρ) st := by simp only [exs] <;> rfl
@[simp] theorem exs_cons : exs G (.cons s b) ρ st = exsK G b (ex G s ρ st) := by simp only [exs] <;> rfl
@[simp] theorem ex_asgN {i : Nat} : ex G (.asg (.nm i) e) ρ st = bindC (ev G e ρ st) fun v st => .ok (.nx (ρ.set i (.v v))) st := by
  simp only [ex, bindC]; congr 1; funext v st; obtain ⟨v, k⟩ := v; cases k <;> rfl
@[simp] theorem ex_asgT {is : List Nat} : ex G (.asg (.tup is) e) ρ st = (ev G e ρ st).bind fun v st => match v with
    | (_, .ow) => .bad
    | (.d x, _) => match bindT (.tup is) x ρ with
      | some ρ => .ok (.nx ρ) st
      | none => .bad
    | _ => .bad := by
  simp only [ex]; congr 1; funext v st; obtain ⟨v, k⟩ := v; cases k <;> cases v <;> rfl
@[simp] theorem ex_own {i : Nat} : ex G (.own i e) ρ st = (ev G e ρ st).bind fun v st => match v with
    | (.d (.list ds), .fr) => .ok (.nx (ρ.set i (.own ds))) st
    | _ => .bad := by simp only [ex] <;> rfl
@[simp] theorem ex_par {is : List (Nat × Bool)} : ex G (.par is es) ρ st = (evs G es ρ st).bind fun vs st => match parGo is vs ρ with
    | some ρ => .ok (.nx ρ) st
    | none => .bad := by simp only [ex] <;> rfl
@[simp] theorem ex_ife : ex G (.ife t b1 b2) ρ st = (evT G t ρ st).bind fun k st => if k then exs G b1 ρ st else exs G b2 ρ st := by
  simp only [ex]; congr 1; funext k st; cases k <;> rfl
@[simp] theorem ex_for {tg : Tg} {it : It} : ex G (.for_ tg it b) ρ st = (evI G it ρ st).bind fun r st => if r.2 then .bad else forGo (forTurn G tg b) r.1 ρ st := by simp only [ex] <;> rfl
@[simp] theorem ex_whl {n : Nat} : ex G (.whl n t b) ρ st = whlGo (evT G t) (exs G b) n ρ st := by simp only [ex] <;> rfl
@[simp] theorem ex_ret0 : ex G (.ret .no) ρ st = .ok (.ret (.d .none)) st := by simp only [ex] <;> rfl
@[simp] theorem ex_ret : ex G (.ret (.so e)) ρ st = (ev G e ρ st).bind fun v st => .ok (.ret v.1) st := by simp only [ex] <;> rfl
@[simp] theorem ex_expr : ex G (.expr e) ρ st = (ev G e ρ st).bind fun _ st => .ok (.nx ρ) st := by simp only [ex] <;> rfl
@[simp] theorem ex_pass : ex G .pass ρ st = .ok (.nx ρ) st := by simp only [ex] <;> rfl
@[simp] theorem ex_brk : ex G .brk ρ st = .ok (.brk ρ) st := by simp only [ex] <;> rfl
@[simp] theorem ex_cnt : ex G .cnt ρ st = .ok (.ct ρ) st := by simp only [ex] <;> rfl
@[simp] theorem ex_raise0 {c : Nat} : ex G (.raise c .no) ρ st = .exc c none st := by simp only [ex] <;> rfl
@[simp] theorem ex_raise {c : Nat} : ex G (.raise c (.so e)) ρ st = bindC (ev G e ρ st) fun v st => match v with
    | .d x => .exc c (some x) st
    | _ => .bad := by
  simp only [ex, bindC]; congr 1; funext v st; obtain ⟨v, k⟩ := v; cases k <;> cases v <;> rfl
@[simp] theorem ex_frz {i : Nat} : ex G (.frz i) ρ st = .ok (.nx (frzS ρ i)) st := by simp only [ex] <;> rfl
@[simp] theorem ex_lamNew {i k : Nat} : ex G (.lamNew i k) ρ st = .ok (.nx (ρ.set i (.lamL [k]))) st := by simp only [ex] <;> rfl
theorem ex_app {i : Nat} : ex G (.app i e) ρ st = match ρ[i]? with
    | some (.own ds) => (ev G e ρ st).bind fun v st => match v with
      | (_, .ow) => .bad
      | (.d d, _) => if ds.length < sz then .ok (.nx (ρ.set i (.own (ds ++ [d])))) st else .bad
      | _ => .bad
    | _ => .bad := by simp only [ex] <;> rfl
theorem ex_extd {i : Nat} : ex G (.extd i e) ρ st = match ρ[i]? with
    | some (.own ds) => (ev G e ρ st).bind fun v st => match v with
      | (_, .ow) => .bad
      | (.d (.list es), _) => if ds.length + es.length ≤ sz then .ok (.nx (ρ.set i (.own (ds ++ es)))) st else .bad
      | _ => .bad
    | _ => .bad := by simp only [ex] <;> rfl
theorem ex_setI {i : Nat} : ex G (.setI i e1 e) ρ st = (ev G e ρ st).bind fun v st => match ρ[i]? with
    | some (.own ds) => (ev G e1 ρ st).bindD fun y st => match v, y with
      | (_, .ow), _ => .bad
      | (.d x, _), .int j => match atD ds.length j with
        | some n => .ok (.nx (ρ.set i (.own (ds.set n x)))) st
        | none => .bad
      | _, _ => .bad
    | _ => .bad := by simp only [ex] <;> rfl
theorem ex_potS {i : Nat} {k : Bool} : ex G (.potS i k e) ρ st = (ev G e ρ st).bindD fun x st => match ρ[i]?, x with
    | some (.v .pot), .int n => .ok (.nx ρ) (if k then (st.1, n) else (n, st.2))
    | _, _ => .bad := by simp only [ex] <;> rfl
theorem ex_potD {i j : Nat} : ex G (.potD i j e) ρ st = (ev G e ρ st).bindD fun x st => match ρ[i]?, x with
    | some (.v .pot), .tuple [.int q, .int r] => .ok (.nx (ρ.set j (.v (.d (.int r))))) (q, st.2)
    | _, _ => .bad := by simp only [ex] <;> rfl
/-! ### comprehensions -/
/-- a comprehension's turn -/
def lcTurn (G : GT) (ρ : List Sl) (tg : Tg) (c : Ot) (e : Ex) (own : List (Str × Nat)) (x : PyData) (st : Pot) : Res (Option PyData) := match bindT tg x (blkS ρ (own.map (·.2))) with
        | none => .bad
        | some ρ1 => noExc ((evOt G c ρ1 st).bind fun k st => if k then (ev G e ρ1 st).bind fun v st => match v with
            | (.d d, .cl) => .ok (some d) st
            | (.d d, .fr) => .ok (some d) st
            | _ => .bad
          else .ok none st)
theorem ev_lc {tg : Tg} {it : It} {c : Ot} {own : List (Str × Nat)} : ev G (.lc tg it c e own) ρ st = (evI G it ρ st).bind fun r st => (compGo (lcTurn G ρ tg c e own) r.1 [] st).bind fun ds st => okK (some (.list ds)) st := by
  simp only [ev]
  congr 1; funext r st; congr 2; funext x st; unfold lcTurn
  cases bindT tg x (blkS ρ (own.map (·.2))) with
  | none => rfl
  | some ρ1 => dsimp only; congr 2; funext k st; cases k <;> rfl
end
/-- one turn more -/
def forK (turn : PyData → List Sl → Pot → Res Fl) (r : List PyData) (x : Res Fl) : Res Fl := x.bind fun f st => match f with
    | .nx ρ => forGo turn r ρ st
    | .ct ρ => forGo turn r ρ st
    | .brk ρ => .ok (.nx ρ) st
    | .ret v => .ok (.ret v) st
section
variable {turn : PyData → List Sl → Pot → Res Fl} {r : List PyData} {ρ : List Sl} {st : Pot} {c : Prop} [Decidable c]
@[simp] theorem forGo_nil : forGo turn [] ρ st = .ok (.nx ρ) st := rfl
@[simp] theorem forGo_cons {x : PyData} : forGo turn (x :: r) ρ st = forK turn r (turn x ρ st) := rfl
@[simp] theorem forK_nx : forK turn r (.ok (.nx ρ) st) = forGo turn r ρ st := rfl
@[simp] theorem forK_ct : forK turn r (.ok (.ct ρ) st) = forGo turn r ρ st := rfl
@[simp] theorem forK_brk : forK turn r (.ok (.brk ρ) st) = .ok (.nx ρ) st := rfl
@[simp] theorem forK_ret {v : Val} : forK turn r (.ok (.ret v) st) = .ok (.ret v) st := rfl
@[simp] theorem forK_exc {n : Nat} {x : Option PyData} : forK turn r (.exc n x st) = .exc n x st := rfl
@[simp] theorem forK_bad : forK turn r .bad = .bad := rfl
@[simp] theorem forK_ite {x y : Res Fl} : forK turn r (if c then x else y) = if c then forK turn r x else forK turn r y := by split <;> rfl
end
/-- a comprehension whose turns are known -/
theorem compGo_map {turn : PyData → Pot → Res (Option PyData)} {g : PyData → Option PyData} {st : Pot} : ∀ {xs acc : List PyData}, (∀ x ∈ xs, turn x st = .ok (g x) st) → compGo turn xs acc st = .ok (acc ++ xs.filterMap g) st
  | [], acc, _ => by simp [compGo]
  | x :: r, acc, h => by
    rw [compGo, h x (List.mem_cons_self ..)]
    simp only [Res.bind]
    rw [compGo_map (fun y hy => h y (List.mem_cons_of_mem _ hy))]
    cases hg : g x with
    | none => simp [hg]
    | some d => simp [hg]
/-- .. each giving one value -/
theorem compGo_all {turn : PyData → Pot → Res (Option PyData)} {g : PyData → PyData} {st : Pot} {xs acc : List PyData} (h : ∀ x ∈ xs, turn x st = .ok (some (g x)) st) : compGo turn xs acc st = .ok (acc ++ xs.map g) st := by
  rw [compGo_map (g := fun x => some (g x)) h]
  simp
theorem run_eq {G : GT} {n : Nat} {b : Sms} {as : List Val} {st : Pot} : run G n b as st = finR (exs G b (as.map Sl.v ++ List.replicate (n - as.length) .un) st) := rfl
/-! ### data -/
@[simp] theorem shp_int {i : Int} : shp (.int i) = true := rfl
@[simp] theorem shp_none : shp .none = true := rfl
@[simp] theorem shp_bool {i : Bool} : shp (.bool i) = true := rfl
@[simp] theorem cmpD_eq {x y : PyData} : cmpD .eq x y = if shp x && shp y then some (PyData.eqv x y) else none := by unfold cmpD; rfl
@[simp] theorem cmpD_ne {x y : PyData} : cmpD .ne x y = if shp x && shp y then some (!PyData.eqv x y) else none := by unfold cmpD; rfl
@[simp] theorem cmpD_lt {x y : Int} : cmpD .lt (.int x) (.int y) = some (decide (x < y)) := rfl
@[simp] theorem cmpD_le {x y : Int} : cmpD .le (.int x) (.int y) = some (decide (x ≤ y)) := rfl
@[simp] theorem cmpD_gt {x y : Int} : cmpD .gt (.int x) (.int y) = some (decide (y < x)) := rfl
@[simp] theorem cmpD_ge {x y : Int} : cmpD .ge (.int x) (.int y) = some (decide (y ≤ x)) := rfl
@[simp] theorem cmpD_isin {x y : PyData} : cmpD .isin x y = inD x y := by unfold cmpD; rfl
@[simp] theorem cmpD_notin {x y : PyData} : cmpD .notin x y = (inD x y).map (!·) := by unfold cmpD; rfl
@[simp] theorem eqv_int {i j : Int} : PyData.eqv (.int i) (.int j) = decide (i = j) := by simp only [PyData.eqv]; rfl
@[simp] theorem eqv_none {d : PyData} : PyData.eqv d .none = isNoneD d := by cases d <;> rfl
@[simp] theorem bi_all {α : Type} {xs : List α} {p : α → Bool} : biD .all [.list (xs.map fun x => .bool (p x))] = some (.bool (xs.all p)) := by
  have h : ∀ xs : List α, flags (xs.map fun x => .bool (p x)) = some (xs.map p) := by
    intro xs
    induction xs with
    | nil => rfl
    | cons a r ih => simp only [List.map_cons, flags, ih]; rfl
  simp only [biD, h, Option.map_some, List.all_map]
  rfl
@[simp] theorem bi_any {α : Type} {xs : List α} {p : α → Bool} : biD .any [.list (xs.map fun x => .bool (p x))] = some (.bool (xs.any p)) := by
  have h : ∀ xs : List α, flags (xs.map fun x => .bool (p x)) = some (xs.map p) := by
    intro xs
    induction xs with
    | nil => rfl
    | cons a r ih => simp only [List.map_cons, flags, ih]; rfl
  simp only [biD, h, Option.map_some, List.any_map]
  rfl
def isTd : PyData → Bool
  | .tuple _ => true
  | _ => false
def isLd : PyData → Bool
  | .list _ => true
  | _ => false
def isLTd : PyData → Bool
  | .tuple _ => true
  | .list _ => true
  | _ => false
def isIBd : PyData → Bool
  | .int _ => true
  | .bool _ => true
  | _ => false
def isBd : PyData → Bool
  | .bool _ => true
  | _ => false
def isSd : PyData → Bool
  | .str _ => true
  | _ => false
@[simp] theorem bi_isT {d : PyData} : biD .isT [d] = some (.bool (isTd d)) := by cases d <;> rfl
@[simp] theorem bi_isL {d : PyData} : biD .isL [d] = some (.bool (isLd d)) := by cases d <;> rfl
@[simp] theorem bi_isLT {d : PyData} : biD .isLT [d] = some (.bool (isLTd d)) := by cases d <;> rfl
@[simp] theorem bi_isI {d : PyData} : biD .isI [d] = some (.bool (isIBd d)) := by cases d <;> rfl
@[simp] theorem bi_isB {d : PyData} : biD .isB [d] = some (.bool (isBd d)) := by cases d <;> rfl
@[simp] theorem bi_isS {d : PyData} : biD .isS [d] = some (.bool (isSd d)) := by cases d <;> rfl
@[simp] theorem isTd_t {xs : List PyData} : isTd (.tuple xs) = true := rfl
@[simp] theorem isTd_l {xs : List PyData} : isTd (.list xs) = false := rfl
@[simp] theorem isTd_i {i : Int} : isTd (.int i) = false := rfl
@[simp] theorem isTd_b {i : Bool} : isTd (.bool i) = false := rfl
@[simp] theorem isTd_s {i : Str} : isTd (.str i) = false := rfl
@[simp] theorem isTd_n : isTd .none = false := rfl
@[simp] theorem isTd_d {i : List (PyData × PyData)} : isTd (.dict i) = false := rfl
@[simp] theorem isLTd_t {xs : List PyData} : isLTd (.tuple xs) = true := rfl
@[simp] theorem isLTd_l {xs : List PyData} : isLTd (.list xs) = true := rfl
@[simp] theorem isLTd_i {i : Int} : isLTd (.int i) = false := rfl
@[simp] theorem isLTd_b {i : Bool} : isLTd (.bool i) = false := rfl
@[simp] theorem isLTd_s {i : Str} : isLTd (.str i) = false := rfl
@[simp] theorem isLTd_n : isLTd .none = false := rfl
@[simp] theorem isLTd_d {i : List (PyData × PyData)} : isLTd (.dict i) = false := rfl
@[simp] theorem bi_len_l {xs : List PyData} : biD .len [.list xs] = some (.int xs.length) := rfl
@[simp] theorem bi_len_t {xs : List PyData} : biD .len [.tuple xs] = some (.int xs.length) := rfl
@[simp] theorem bi_tuple_l {xs : List PyData} : biD .tuple [.list xs] = some (.tuple xs) := rfl
@[simp] theorem bi_tuple_t {xs : List PyData} : biD .tuple [.tuple xs] = some (.tuple xs) := rfl
@[simp] theorem bi_list_l {xs : List PyData} : biD .list [.list xs] = some (.list xs) := rfl
@[simp] theorem bi_list_t {xs : List PyData} : biD .list [.tuple xs] = some (.list xs) := rfl
@[simp] theorem bi_int {i : Int} : biD .int [.int i] = some (.int i) := rfl
@[simp] theorem bi_abs {i : Int} : biD .abs [.int i] = some (.int (if i < 0 then -i else i)) := rfl
@[simp] theorem bi_max2 {i j : Int} : biD .max2 [.int i, .int j] = some (.int (if j > i then j else i)) := rfl
@[simp] theorem bi_min2 {i j : Int} : biD .min2 [.int i, .int j] = some (.int (if j < i then j else i)) := rfl
@[simp] theorem bi_sorted {ds : List PyData} : biD .sorted [.list ds] = (sortD ds).map .list := rfl
@[simp] theorem seqR_l {xs : List PyData} {k : Kd} {st : Pot} : seqR (.d (.list xs), k) st = .ok (xs, k == .ow) st := rfl
@[simp] theorem seqR_t {xs : List PyData} {k : Kd} {st : Pot} : seqR (.d (.tuple xs), k) st = .ok (xs, k == .ow) st := rfl
@[simp] theorem kd_bne : (Kd.cl == Kd.ow) = false := rfl
@[simp] theorem kd_bne2 : (Kd.fr == Kd.ow) = false := rfl
@[simp] theorem kd_bne3 : (Kd.ow == Kd.ow) = true := rfl
theorem lc_all {G : GT} {ρ : List Sl} {st : Pot} {tg : Tg} {e : Ex} {own : List (Str × Nat)} {it : It} {xs : List PyData} {k : Bool} {g : PyData → PyData} (hi : evI G it ρ st = .ok (xs, k) st) (h : ∀ x ∈ xs, lcTurn G ρ tg .no e own x st = .ok (some (g x)) st) : ev G (.lc tg it .no e own) ρ st = .ok (.d (.list (xs.map g)), .fr) st := by
  rw [ev_lc, hi]
  simp [compGo_all h]
theorem lc_if {G : GT} {ρ : List Sl} {st : Pot} {tg : Tg} {e : Ex} {t : Te} {own : List (Str × Nat)} {it : It} {xs : List PyData} {k : Bool} {g : PyData → Option PyData} (hi : evI G it ρ st = .ok (xs, k) st) (h : ∀ x ∈ xs, lcTurn G ρ tg (.so t) e own x st = .ok (g x) st) : ev G (.lc tg it (.so t) e own) ρ st = .ok (.d (.list (xs.filterMap g)), .fr) st := by
  rw [ev_lc, hi]
  simp [compGo_map h]
theorem lc_map {α : Type} {G : GT} {ρ : List Sl} {st : Pot} {tg : Tg} {e : Ex} {own : List (Str × Nat)} {it : It} {zs : List α} {f : α → PyData} {k : Bool} (g : α → PyData) (hi : evI G it ρ st = .ok (zs.map f, k) st) (h : ∀ z ∈ zs, lcTurn G ρ tg .no e own (f z) st = .ok (some (g z)) st) : ev G (.lc tg it .no e own) ρ st = .ok (.d (.list (zs.map g)), .fr) st := by
  have key : ∀ (l : List α) (acc : List PyData), (∀ z ∈ l, lcTurn G ρ tg .no e own (f z) st = .ok (some (g z)) st) → compGo (lcTurn G ρ tg .no e own) (l.map f) acc st = .ok (acc ++ l.map g) st := by
    intro l
    induction l with
    | nil => intro acc _; simp [compGo]
    | cons z r ih =>
      intro acc hz
      rw [List.map_cons, compGo, hz z (List.mem_cons_self ..)]
      simp only [Res.bind]
      rw [ih _ fun y hy => hz y (List.mem_cons_of_mem _ hy)]
      simp
  rw [ev_lc, hi]
  simp [key zs [] h]
theorem lc_fil {α : Type} {G : GT} {ρ : List Sl} {st : Pot} {tg : Tg} {e : Ex} {t : Te} {own : List (Str × Nat)} {it : It} {zs : List α} {f : α → PyData} {k : Bool} (p : α → Bool) (g : α → PyData) (hi : evI G it ρ st = .ok (zs.map f, k) st) (h : ∀ z ∈ zs, lcTurn G ρ tg (.so t) e own (f z) st = .ok (if p z then some (g z) else none) st) : ev G (.lc tg it (.so t) e own) ρ st = .ok (.d (.list ((zs.filter p).map g)), .fr) st := by
  have key : ∀ (l : List α) (acc : List PyData), (∀ z ∈ l, lcTurn G ρ tg (.so t) e own (f z) st = .ok (if p z then some (g z) else none) st) → compGo (lcTurn G ρ tg (.so t) e own) (l.map f) acc st = .ok (acc ++ (l.filter p).map g) st := by
    intro l
    induction l with
    | nil => intro acc _; simp [compGo]
    | cons z r ih =>
      intro acc hz
      rw [List.map_cons, compGo, hz z (List.mem_cons_self ..)]
      simp only [Res.bind]
      rw [ih _ fun y hy => hz y (List.mem_cons_of_mem _ hy)]
      by_cases hp : p z <;> simp [hp]
  rw [ev_lc, hi]
  simp [key zs [] h]
theorem zipD_map {α β : Type} {f : α → PyData} {g : β → PyData} : ∀ (xs : List α) (ys : List β), zipD (xs.map f) (ys.map g) = (xs.zip ys).map fun z => .tuple [f z.1, g z.2]
  | [], _ => by simp [zipD]
  | _ :: _, [] => by simp [zipD]
  | x :: xs, y :: ys => by simp [zipD, zipD_map xs ys]
@[simp] theorem bin_addI {a b : Int} : binD .add (.int a) (.int b) = some (.int (a + b)) := rfl
@[simp] theorem bin_subI {a b : Int} : binD .sub (.int a) (.int b) = some (.int (a - b)) := rfl
@[simp] theorem bin_mulI {a b : Int} : binD .mul (.int a) (.int b) = if fits a && fits b then some (.int (a * b)) else none := rfl
@[simp] theorem bin_addL {a b : List PyData} : binD .add (.list a) (.list b) = if a.length + b.length ≤ sz then some (.list (a ++ b)) else none := rfl
@[simp] theorem bin_addT {a b : List PyData} : binD .add (.tuple a) (.tuple b) = if a.length + b.length ≤ sz then some (.tuple (a ++ b)) else none := rfl
@[simp] theorem bin_modI {a b : Int} : binD .mod (.int a) (.int b) = if b ≠ 0 then some (.int (a.fmod b)) else none := rfl
@[simp] theorem bin_fdivI {a b : Int} : binD .fdiv (.int a) (.int b) = if b ≠ 0 ∧ b.natAbs.log2 < 9000 then some (.int (a.fdiv b)) else none := rfl
@[simp] theorem bin_powI {a b : Int} : binD .pow (.int a) (.int b) = if 0 ≤ b ∧ b ≤ 1000 ∧ a.natAbs < 2 ^ 64 then some (.int (a ^ b.toNat)) else none := rfl
@[simp] theorem bin_mulT {a : List PyData} {b : Int} : binD .mul (.tuple a) (.int b) = if b ≤ 1000 ∧ -1000 ≤ b ∧ a.length ≤ 1000 then some (.tuple (List.replicate b.toNat a).flatten) else none := rfl
@[simp] theorem bin_mulL {a : List PyData} {b : Int} : binD .mul (.list a) (.int b) = if b ≤ 1000 ∧ -1000 ≤ b ∧ a.length ≤ 1000 then some (.list (List.replicate b.toNat a).flatten) else none := rfl
/-! ### slices -/
theorem cut_from {xs : List PyData} {i : Int} (h : 0 ≤ i) : cutD xs (some (.int i)) none = some (xs.drop i.toNat) := by
  have hn : ¬ i < 0 := by omega
  simp only [cutD, cutP, hn, if_false, Option.bind_some, Option.map_some, Option.some.injEq]
  by_cases hl : i.toNat ≤ xs.length
  · rw [Nat.min_eq_left hl, List.take_of_length_le (by simp)]
  · rw [Nat.min_eq_right (by omega), List.drop_of_length_le (Nat.le_refl _), List.drop_of_length_le (by omega)]; simp
theorem cut_to {xs : List PyData} {i : Int} (h : 0 ≤ i) : cutD xs none (some (.int i)) = some (xs.take i.toNat) := by
  have hn : ¬ i < 0 := by omega
  simp only [cutD, cutP, hn, if_false, Option.bind_some, Option.map_some, Option.some.injEq, List.drop_zero, Nat.sub_zero]
  by_cases hl : i.toNat ≤ xs.length
  · rw [Nat.min_eq_left hl]
  · rw [Nat.min_eq_right (by omega), List.take_of_length_le (Nat.le_refl _), List.take_of_length_le (by omega)]
theorem cut_toN {xs : List PyData} {i : Int} (h : i < 0) : cutD xs none (some (.int i)) = some (xs.take (i + xs.length).toNat) := by
  simp only [cutD, cutP, h, if_true, Option.bind_some, Option.map_some, Option.some.injEq, List.drop_zero, Nat.sub_zero]
@[simp] theorem slc_from {xs : List PyData} {i : Int} (h : 0 ≤ i) : slcD (.tuple xs) (some (.int i)) none = some (.tuple (xs.drop i.toNat)) := by simp only [slcD, cut_from h, Option.map_some]
@[simp] theorem slc_to {xs : List PyData} {i : Int} (h : 0 ≤ i) : slcD (.tuple xs) none (some (.int i)) = some (.tuple (xs.take i.toNat)) := by simp only [slcD, cut_to h, Option.map_some]
@[simp] theorem slc_toN {xs : List PyData} {i : Int} (h : i < 0) : slcD (.tuple xs) none (some (.int i)) = some (.tuple (xs.take (i + xs.length).toNat)) := by simp only [slcD, cut_toN h, Option.map_some]
@[simp] theorem slcL_from {xs : List PyData} {i : Int} (h : 0 ≤ i) : slcD (.list xs) (some (.int i)) none = some (.list (xs.drop i.toNat)) := by simp only [slcD, cut_from h, Option.map_some]
@[simp] theorem slcL_to {xs : List PyData} {i : Int} (h : 0 ≤ i) : slcD (.list xs) none (some (.int i)) = some (.list (xs.take i.toNat)) := by simp only [slcD, cut_to h, Option.map_some]
@[simp] theorem slcL_toN {xs : List PyData} {i : Int} (h : i < 0) : slcD (.list xs) none (some (.int i)) = some (.list (xs.take (i + xs.length).toNat)) := by simp only [slcD, cut_toN h, Option.map_some]
/-! ### calls -/
def callF (F : FnS) (as : List (Val × Kd)) (st : Pot) : Ev := if as.length = F.ps.length then (if as.all isCl then (F.sem (vals as) st).bind fun v st' => .ok (v, .cl) st' else flatR (F.sem (vals as) st)) else .bad
theorem callG_at {G : GT} {f : Nat} {F : FnS} (h : G.fns[f]? = some F) (as : List (Val × Kd)) (st : Pot) : callG G f as st = callF F as st := by
  unfold callG callF
  rw [h]
@[simp] theorem vals_nil : vals [] = [] := rfl
@[simp] theorem vals_cons {p : Val × Kd} {as : List (Val × Kd)} : vals (p :: as) = p.1 :: vals as := rfl
@[simp] theorem dats_nil : dats [] = some [] := rfl
@[simp] theorem dats_cons {x : PyData} {r : List Val} : dats (.d x :: r) = (dats r).map (x :: ·) := rfl
@[simp] theorem noExc_ok {α : Type} {a : α} {st : Pot} : noExc (.ok a st) = .ok a st := rfl
@[simp] theorem flatR_bool {b : Bool} {st : Pot} : flatR (.ok (.d (.bool b)) st) = .ok (.d (.bool b), .cl) st := rfl
@[simp] theorem flatR_int {b : Int} {st : Pot} : flatR (.ok (.d (.int b)) st) = .ok (.d (.int b), .cl) st := rfl
@[simp] theorem flatR_none {st : Pot} : flatR (.ok (.d .none) st) = .ok (.d .none, .cl) st := rfl
end PyD
namespace PyD
open PySem PySem.Spec PyProof.Rows L2
/-! ### how long a datum's text is -/
def Ch (x : Str) : Prop := ∀ c ∈ x.cps.toList, c < 1114112
theorem char_lt (c : Char) : c.toNat < 1114112 := by
  have h := c.valid
  have : c.toNat < 1114112 := by
    rcases h with h | h
    · have : c.toNat < 0xd800 := h
      omega
    · exact h.2
  omega
theorem ch_of (s : String) : Ch (Str.ofString s) := by
  intro c hc
  rw [Str.ofString_eq_toList] at hc
  simp only [List.mem_map] at hc
  obtain ⟨d, _, rfl⟩ := hc
  exact char_lt d
theorem ch_app {x y : Str} (hx : Ch x) (hy : Ch y) : Ch (x ++ y) := by
  intro c hc
  have e : (x ++ y).cps = x.cps ++ y.cps := rfl
  rw [e, Array.toList_append] at hc
  rcases List.mem_append.mp hc with h | h
  · exact hx c h
  · exact hy c h
theorem ch_textFrom : ∀ {ts : List Str} {k : Nat} {acc : Str}, Ch acc → (∀ t ∈ ts, Ch t) → Ch (textFrom k acc ts)
  | [], _, _, h, _ => h
  | t :: ts, k, acc, h, ht => by
    unfold textFrom
    refine ch_textFrom (ch_app (ch_app h ?_) (ht t (List.mem_cons_self ..))) fun u hu => ht u (List.mem_cons_of_mem _ hu)
    split <;> exact ch_of _
theorem ch_join {sep : Str} (hs : Ch sep) : ∀ {ts : List Str}, (∀ t ∈ ts, Ch t) → Ch (Str.join sep ts)
  | [], _ => by intro c hc; exact absurd hc (by simp [Str.join, Str.empty])
  | [x], h => h x (List.mem_cons_self ..)
  | x :: y :: r, h => ch_app (ch_app (h x (List.mem_cons_self ..)) hs) (ch_join hs fun t ht => h t (List.mem_cons_of_mem _ ht))
theorem ch_repr {x : Str} (hx : Ch x) : Ch (reprText x) := by
  have dig : ∀ (w n : Nat), ∀ d ∈ (List.replicate w 48 ++ (Nat.toDigits 16 n).map Char.toNat), d < 1114112 := by
    intro w n d hd
    rcases List.mem_append.mp hd with h | h
    · rw [(List.mem_replicate.mp h).2]; decide
    · obtain ⟨e, _, rfl⟩ := List.mem_map.mp h
      exact char_lt e
  have one : ∀ q c, c < 1114112 → ∀ d ∈ Builtin.Str.reprChar q c, d < 1114112 := by
    intro q c hc d hd
    unfold Builtin.Str.reprChar at hd
    dsimp only at hd
    split at hd
    · simp only [List.mem_cons, List.not_mem_nil, or_false] at hd
      rcases hd with h | h
      · rw [h]; decide
      · rw [h]; exact hc
    · split at hd
      · simp only [List.mem_cons, List.not_mem_nil, or_false] at hd
        rcases hd with h | h <;> (rw [h]; decide)
      · split at hd
        · simp only [List.mem_cons, List.not_mem_nil, or_false] at hd
          rcases hd with h | h <;> (rw [h]; decide)
        · split at hd
          · simp only [List.mem_cons, List.not_mem_nil, or_false] at hd
            rcases hd with h | h <;> (rw [h]; decide)
          · split at hd
            · simp only [List.mem_cons, List.not_mem_nil, or_false] at hd
              rw [hd]; exact hc
            · split at hd
              · rcases List.mem_append.mp hd with h | h
                · simp only [List.mem_cons, List.not_mem_nil, or_false] at h
                  rcases h with h | h <;> (rw [h]; decide)
                · exact dig _ _ d h
              · split at hd
                · rcases List.mem_append.mp hd with h | h
                  · simp only [List.mem_cons, List.not_mem_nil, or_false] at h
                    rcases h with h | h <;> (rw [h]; decide)
                  · exact dig _ _ d h
                · rcases List.mem_append.mp hd with h | h
                  · simp only [List.mem_cons, List.not_mem_nil, or_false] at h
                    rcases h with h | h <;> (rw [h]; decide)
                  · exact dig _ _ d h
  have hq : reprQuote x < 1114112 := by
    unfold reprQuote
    split <;> decide
  have fold : ∀ (l : List Nat) (acc : Array Nat), (∀ c ∈ l, c < 1114112) → (∀ c ∈ acc.toList, c < 1114112) → ∀ c ∈ (l.foldl (fun out c => out ++ (Builtin.Str.reprChar (reprQuote x) c).toArray) acc).toList, c < 1114112 := by
    intro l
    induction l with
    | nil => intro acc _ h; exact h
    | cons c r ih =>
      intro acc hl ha
      rw [List.foldl_cons]
      refine ih _ (fun d hd => hl d (List.mem_cons_of_mem _ hd)) fun d hd => ?_
      rw [Array.toList_append] at hd
      rcases List.mem_append.mp hd with h | h
      · exact ha d h
      · exact one _ c (hl c (List.mem_cons_self ..)) d (by simpa using h)
  intro c hc
  unfold reprText at hc
  rw [Array.toList_push, ← Array.foldl_toList] at hc
  rcases List.mem_append.mp hc with h | h
  · exact fold _ _ hx (by simpa using hq) c h
  · rw [List.mem_singleton.mp h]; exact hq
mutual
theorem ch_shown : ∀ {d : PyData}, d.canLay0 = true → Ch d.shown
  | .none, _ => ch_of _
  | .bool b, _ => by cases b <;> exact ch_of _
  | .int i, _ => ch_of _
  | .str x, h => by
    simp only [PyData.shown]
    refine ch_repr fun c hc => ?_
    have h : PyData.strOk x = true := by simpa only [PyData.canLay0] using h
    unfold PyData.strOk at h
    rw [Array.all_eq_true'] at h
    have := h c (by simpa using hc)
    simp only [decide_eq_true_eq] at this
    omega
  | .list xs, h => by
    simp only [PyData.shown]
    unfold listText
    exact ch_app (ch_textFrom (ch_of _) (ch_shownAll (by simpa only [PyData.canLay0] using h))) (ch_of _)
  | .tuple xs, h => by
    simp only [PyData.shown]
    unfold tupleText
    refine ch_app (ch_app (ch_of _) (ch_join (ch_of _) (ch_shownAll (by simpa only [PyData.canLay0] using h)))) ?_
    split <;> exact ch_of _
  | .dict _, h => by simp [PyData.canLay0] at h
theorem ch_shownAll : ∀ {xs : List PyData}, PyData.canLayAll0 xs = true → ∀ t ∈ PyData.shownAll xs, Ch t
  | [], _, t, ht => by simp [PyData.shownAll] at ht
  | x :: xs, h, t, ht => by
    simp only [PyData.canLayAll0, Bool.and_eq_true] at h
    simp only [PyData.shownAll, List.mem_cons] at ht
    rcases ht with e | ht
    · rw [e]; exact ch_shown h.1
    · exact ch_shownAll h.2 t ht
end
mutual
/-- at most so long -/
def shw : PyData → Nat
  | .none => 4
  | .bool _ => 5
  | .int i => i.natAbs.log2 + 3
  | .str x => 10 * x.length + 2
  | .list xs => shwAll xs + 2
  | .tuple xs => shwAll xs + 3
  | .dict _ => 0
def shwAll : List PyData → Nat
  | [] => 0
  | x :: xs => shw x + 2 + shwAll xs
end
theorem lt_pow10 (n : Nat) : (n : Int) < 10 ^ (n.log2 + 1) := by
  have h1 : n < 2 ^ (n.log2 + 1) := Nat.lt_log2_self
  have h2 : (2 : Nat) ^ (n.log2 + 1) ≤ 10 ^ (n.log2 + 1) := Nat.pow_le_pow_left (by decide) _
  have h3 : n < 10 ^ (n.log2 + 1) := Nat.lt_of_lt_of_le h1 h2
  exact_mod_cast h3
theorem int_text_le (i : Int) : (Str.ofString (toString i)).length ≤ i.natAbs.log2 + 2 := by
  by_cases h : 0 ≤ i
  · have h2 := lt_pow10 i.natAbs
    have e : ((i.natAbs : Nat) : Int) = i := by omega
    rw [e] at h2
    have := toString_length_le h (k := i.natAbs.log2 + 1) (by omega) h2
    omega
  · have hn : i < 0 := by omega
    rw [len_text_neg hn]
    have h2 := lt_pow10 i.natAbs
    have e : ((i.natAbs : Nat) : Int) = 0 - i := by omega
    rw [e] at h2
    have := toString_length_le (v := 0 - i) (by omega) (k := i.natAbs.log2 + 1) (by omega) h2
    omega
theorem len_app (x y : Str) : (x ++ y).length = x.length + y.length := Str.length_append x y
theorem textFrom_le : ∀ {ts : List Str} {k : Nat} {acc : Str}, (textFrom k acc ts).length ≤ acc.length + (ts.map fun t => t.length + 2).sum
  | [], _, _ => by simp [textFrom]
  | t :: ts, k, acc => by
    unfold textFrom
    have ih := textFrom_le (ts := ts) (k := k + 1) (acc := acc ++ (if k > 0 then ", " else "" : String) ++ t)
    rw [len_app, len_app] at ih
    have e : ((if k > 0 then ", " else "" : String) : Str).length ≤ 2 := by split <;> decide
    rw [List.map_cons, List.sum_cons]
    omega
theorem join_le : ∀ {ts : List Str}, (Str.join ", " ts).length ≤ (ts.map fun t => t.length + 2).sum
  | [] => by simp [Str.join]; rfl
  | [x] => by simp [Str.join]
  | x :: y :: r => by
    have ih := join_le (ts := y :: r)
    show (x ++ ", " ++ Str.join ", " (y :: r)).length ≤ _
    rw [len_app, len_app, List.map_cons, List.sum_cons]
    have e : ((", " : String) : Str).length = 2 := rfl
    omega
mutual
theorem shown_le : ∀ {d : PyData}, d.canLay0 = true → d.shown.length ≤ shw d
  | .none, _ => by decide
  | .bool b, _ => by cases b <;> decide
  | .int i, _ => by
    have := int_text_le i
    simp only [PyData.shown, shw]
    show (Str.ofString (toString i)).length ≤ _
    omega
  | .str x, h => by
    simp only [PyData.shown, shw]
    refine StrLaws.reprText_len x fun c hc => ?_
    have h : PyData.strOk x = true := by simpa only [PyData.canLay0] using h
    unfold PyData.strOk at h
    rw [Array.all_eq_true'] at h
    have := h c (by simpa using hc)
    simp only [decide_eq_true_eq] at this
    omega
  | .list xs, h => by
    simp only [PyData.shown, shw]
    unfold listText
    rw [len_app]
    have h1 := textFrom_le (ts := PyData.shownAll xs) (k := 0) (acc := "[")
    have h2 := shownAll_le (xs := xs) (by simpa only [PyData.canLay0] using h)
    have e1 : (("[" : String) : Str).length = 1 := rfl
    have e2 : (("]" : String) : Str).length = 1 := rfl
    omega
  | .tuple xs, h => by
    simp only [PyData.shown, shw]
    unfold tupleText
    rw [len_app, len_app]
    have h1 := join_le (ts := PyData.shownAll xs)
    have h2 := shownAll_le (xs := xs) (by simpa only [PyData.canLay0] using h)
    have e1 : (("(" : String) : Str).length = 1 := rfl
    have e2 : ((if (PyData.shownAll xs).length == 1 then ",)" else ")" : String) : Str).length ≤ 2 := by split <;> decide
    omega
  | .dict _, h => by simp [PyData.canLay0] at h
theorem shownAll_le : ∀ {xs : List PyData}, PyData.canLayAll0 xs = true → ((PyData.shownAll xs).map fun t => t.length + 2).sum ≤ shwAll xs
  | [], _ => by simp [PyData.shownAll, shwAll]
  | x :: xs, h => by
    simp only [PyData.canLayAll0, Bool.and_eq_true] at h
    have h1 := shown_le h.1
    have h2 := shownAll_le h.2
    simp only [PyData.shownAll, shwAll, List.map_cons, List.sum_cons]
    omega
end
/-! ### data whose text may be asked -/
/-- no dict, not deep, ints of at most 1920 bits -/
def rp (n : Nat) (d : PyData) : Prop := d.canLay0 = true ∧ d.showable = true ∧ d.depth ≤ n
theorem bi_repr {d : PyData} {n : Nat} (h : rp n d) (hn : n ≤ 60) (hs : shw d ≤ sz) : biD .repr [d] = some (.str d.shown) := by
  obtain ⟨h1, h2, h3⟩ := h
  have h4 := shown_le h1
  have h5 := PyData.hasDict_of_canLay d h1
  simp only [biD]
  rw [if_pos]
  simp only [h2, h5, Bool.and_eq_true, Bool.not_false, decide_eq_true_eq, and_true, true_and]
  omega
end PyD
namespace PyD
open PySem PySem.Spec PyProof.Rows L2
/-! ### ints and pairs of ints as data -/
abbrev il (l : List Int) : List PyData := l.map .int
def pt (p : Int × Int) : PyData := .tuple [.int p.1, .int p.2]
abbrev pl (ps : List (Int × Int)) : List PyData := ps.map pt
@[simp] theorem layAll_il (l : List Int) : PyData.canLayAll0 (il l) = true := by
  induction l with
  | nil => rfl
  | cons a r ih => simp only [List.map_cons, PyData.canLayAll0, PyData.canLay0, ih, Bool.and_self]
@[simp] theorem depAll_il (l : List Int) : PyData.depthAll (il l) = 0 := by
  induction l with
  | nil => rfl
  | cons a r ih => simp only [List.map_cons, PyData.depthAll, PyData.depth, ih]; rfl
@[simp] theorem lay_pt (p : Int × Int) : (pt p).canLay0 = true := rfl
@[simp] theorem dep_pt (p : Int × Int) : (pt p).depth = 1 := rfl
@[simp] theorem layAll_pl (l : List (Int × Int)) : PyData.canLayAll0 (pl l) = true := by
  induction l with
  | nil => rfl
  | cons a r ih => simp only [List.map_cons, PyData.canLayAll0, lay_pt, ih, Bool.and_self]
theorem depAll_pl (l : List (Int × Int)) : PyData.depthAll (l.map pt) ≤ 1 := by
  induction l with
  | nil => exact Nat.zero_le _
  | cons a r ih => simp only [List.map_cons, PyData.depthAll, dep_pt]; omega
theorem shp_of {d : PyData} (h1 : d.canLay0 = true) (h2 : d.depth ≤ 64) : shp d = true := by
  show (d.canLay0 && decide (d.depth ≤ 64)) = true
  rw [h1, decide_eq_true h2]; rfl
@[simp] theorem shp_ll (l : List Int) : shp (.list (il l)) = true := shp_of (by simp only [PyData.canLay0, layAll_il]) (by simp only [PyData.depth, depAll_il]; decide)
@[simp] theorem shp_lt (l : List Int) : shp (.tuple (il l)) = true := shp_of (by simp only [PyData.canLay0, layAll_il]) (by simp only [PyData.depth, depAll_il]; decide)
@[simp] theorem shp_pt (p : Int × Int) : shp (pt p) = true := rfl
@[simp] theorem shp_pl (l : List (Int × Int)) : shp (.list (pl l)) = true := shp_of (by simp only [PyData.canLay0, layAll_pl]) (by have := depAll_pl l; show PyData.depthAll (l.map pt) + 1 ≤ 64; omega)
@[simp] theorem shp_pu (l : List (Int × Int)) : shp (.tuple (pl l)) = true := shp_of (by simp only [PyData.canLay0, layAll_pl]) (by have := depAll_pl l; show PyData.depthAll (l.map pt) + 1 ≤ 64; omega)
@[simp] theorem in_il {l : List Int} {i : Int} : ((il l).any fun z => PyData.eqv z (.int i)) = decide (i ∈ l) := by
  induction l with
  | nil => simp
  | cons a r ih =>
    simp only [List.map_cons, List.any_cons, ih, eqv_int, List.mem_cons]
    by_cases h : a = i
    · simp [h]
    · simp [h, Ne.symm h]
theorem eqvAll_two {a b c d : PyData} : PyData.eqvAll [a, b] [c, d] = (PyData.eqv a c && PyData.eqv b d) := by simp only [PyData.eqvAll, Bool.and_true]
@[simp] theorem eqv_pt {p q : Int × Int} : PyData.eqv (pt p) (pt q) = decide (p = q) := by
  show PyData.eqv (.tuple _) (.tuple _) = _
  simp only [PyData.eqv, eqvAll_two, eqv_int]
  obtain ⟨a, b⟩ := p
  obtain ⟨c, d⟩ := q
  simp only [Prod.mk.injEq]
  by_cases h1 : a = c <;> by_cases h2 : b = d <;> simp [h1, h2]
@[simp] theorem in_pl {l : List (Int × Int)} {p : Int × Int} : ((pl l).any fun z => PyData.eqv z (pt p)) = decide (p ∈ l) := by
  induction l with
  | nil => simp
  | cons a r ih =>
    simp only [List.map_cons, List.any_cons, ih, eqv_pt, List.mem_cons]
    by_cases h : a = p
    · simp [h]
    · simp [h, Ne.symm h]
@[simp] theorem inD_il {l : List Int} {i : Int} : inD (.int i) (.list (il l)) = some (decide (i ∈ l)) := by simp only [inD, shp_int, shp_ll, Bool.and_self, if_true, in_il]
@[simp] theorem inD_it {l : List Int} {i : Int} : inD (.int i) (.tuple (il l)) = some (decide (i ∈ l)) := by simp only [inD, shp_int, shp_lt, Bool.and_self, if_true, in_il]
@[simp] theorem inD_pl {l : List (Int × Int)} {p : Int × Int} : inD (pt p) (.list (pl l)) = some (decide (p ∈ l)) := by simp only [inD, shp_pt, shp_pl, Bool.and_self, if_true, in_pl]
@[simp] theorem inD_pu {l : List (Int × Int)} {p : Int × Int} : inD (pt p) (.tuple (pl l)) = some (decide (p ∈ l)) := by simp only [inD, shp_pt, shp_pu, Bool.and_self, if_true, in_pl]
/-! ### sorting -/
def leI (a b : Int) : Bool := decide (a ≤ b)
def ltP (p q : Int × Int) : Bool := if p.1 = q.1 then decide (p.2 < q.2) else decide (p.1 < q.1)
def leP (p q : Int × Int) : Bool := !ltP q p
@[simp] theorem dataLt_pt {p q : Int × Int} : PySem.W.dataLt (pt p) (pt q) = ltP p q := by
  have h := PySem.W.DatumOrd.lt_eq p q
  exact h
@[simp] theorem alike_pt {p q : Int × Int} : PySem.W.alike (pt p) (pt q) = true := PySem.W.DatumOrd.alike p q
@[simp] theorem cmp_lt_pt {p q : Int × Int} : cmpD .lt (pt p) (pt q) = some (ltP p q) := by
  show (if shp (pt p) && shp (pt q) && PySem.W.alike (pt p) (pt q) then some (PySem.W.dataLt (pt p) (pt q)) else none) = _
  simp
theorem leI_trans (a b c : Int) (h1 : leI a b = true) (h2 : leI b c = true) : leI a c = true := by
  simp only [leI, decide_eq_true_eq] at *; omega
theorem leI_total (a b : Int) : (leI a b || leI b a) = true := by
  simp only [leI, Bool.or_eq_true, decide_eq_true_eq]; omega
theorem leP_iff {p q : Int × Int} : leP p q = true ↔ p.1 < q.1 ∨ (p.1 = q.1 ∧ p.2 ≤ q.2) := by
  simp only [leP, ltP, Bool.not_eq_true']
  split <;> simp only [decide_eq_false_iff_not] <;> omega
theorem ltP_iff {p q : Int × Int} : ltP p q = true ↔ p.1 < q.1 ∨ (p.1 = q.1 ∧ p.2 < q.2) := by
  simp only [ltP]
  split <;> simp only [decide_eq_true_eq] <;> omega
theorem leP_trans (a b c : Int × Int) (h1 : leP a b = true) (h2 : leP b c = true) : leP a c = true := by
  rw [leP_iff] at *; omega
theorem leP_total (a b : Int × Int) : (leP a b || leP b a) = true := by
  rw [Bool.or_eq_true, leP_iff, leP_iff]; omega
def sortI (l : List Int) : List Int := l.mergeSort leI
def sortP (l : List (Int × Int)) : List (Int × Int) := l.mergeSort leP
theorem sortOk_map {α : Type} {f : α → PyData} {l : List α} (ha : ∀ x ∈ l, ∀ y ∈ l, PySem.W.alike (f x) (f y) = true) (hs : (l.map f).all tupP = true ∨ (l.map f).all othP = true) (hd : ∀ x ∈ l, (f x).depth ≤ 60) : sortOk (l.map f) = true := by
  unfold sortOk
  have h1 : ((l.map f).all fun d => (l.map f).all fun e => PySem.W.alike d e) = true := by
    simp only [List.all_map, List.all_eq_true, Function.comp]
    exact fun x hx y hy => ha x hx y hy
  have h2 : ((l.map f).all fun d => decide (d.depth ≤ 60)) = true := by
    simp only [List.all_map, List.all_eq_true, Function.comp, decide_eq_true_eq]
    exact hd
  rw [h1, h2]
  rcases hs with h | h <;> rw [h] <;> simp
theorem sortD_il (l : List Int) : sortD (il l) = some (il (sortI l)) := by
  unfold sortD
  rw [if_pos (sortOk_map (f := PyData.int) (fun x _ y _ => PySem.W.DatumOrd.alike x y) (.inr (by simp [othP])) (fun x _ => Nat.zero_le _))]
  congr 1
  unfold sortI
  refine (List.map_mergeSort (s := PySem.W.dataLe false id) ?_).symm
  intro a _ b _
  have h : PySem.W.dataLt (.int b) (.int a) = decide (b < a) := PySem.W.dataLt_int b a
  show leI a b = !PySem.W.dataLt (.int b) (.int a)
  rw [h, leI]
  by_cases h : a ≤ b
  · simp [h]
  · simp [h]; omega
theorem sortD_pl (l : List (Int × Int)) : sortD (pl l) = some (pl (sortP l)) := by
  unfold sortD
  rw [if_pos (sortOk_map (fun x _ y _ => alike_pt) (.inl (by simp [tupP, pt])) (fun x _ => by simp))]
  congr 1
  unfold sortP
  refine (List.map_mergeSort (s := PySem.W.dataLe false id) ?_).symm
  intro a _ b _
  show leP a b = !PySem.W.dataLt (pt b) (pt a)
  rw [dataLt_pt]
  rfl
theorem sortI_perm (l : List Int) : (sortI l).Perm l := List.mergeSort_perm l leI
theorem sortP_perm (l : List (Int × Int)) : (sortP l).Perm l := List.mergeSort_perm l leP
theorem sortI_sorted (l : List Int) : (sortI l).Pairwise (fun a b => a ≤ b) := (List.pairwise_mergeSort leI_trans leI_total l).imp (by intro a b h; simpa [leI] using h)
theorem sortP_sorted (l : List (Int × Int)) : (sortP l).Pairwise (fun a b => leP a b = true) := List.pairwise_mergeSort leP_trans leP_total l
theorem leP_antisymm {a b : Int × Int} (h1 : leP a b = true) (h2 : leP b a = true) : a = b := by
  rw [leP_iff] at *
  obtain ⟨a1, a2⟩ := a
  obtain ⟨b1, b2⟩ := b
  simp only at *
  have : a1 = b1 := by omega
  have : a2 = b2 := by omega
  simp [*]
theorem sortP_eq {l l' : List (Int × Int)} (h : l.Perm l') : sortP l = sortP l' :=
  List.Perm.eq_of_pairwise (le := fun a b => leP a b = true) (fun a b _ _ h1 h2 => leP_antisymm h1 h2) (sortP_sorted l) (sortP_sorted l') ((sortP_perm l).trans (h.trans (sortP_perm l').symm))
theorem mem_sortP {l : List (Int × Int)} {p : Int × Int} : p ∈ sortP l ↔ p ∈ l := (sortP_perm l).mem_iff
theorem mem_sortI {l : List Int} {p : Int} : p ∈ sortI l ↔ p ∈ l := (sortI_perm l).mem_iff
/-- ints, if all are ints -/
def intsOf : List PyData → Option (List Int)
  | [] => some []
  | .int i :: r => (intsOf r).map (i :: ·)
  | _ => none
@[simp] theorem intsOf_il (l : List Int) : intsOf (il l) = some l := by
  induction l with
  | nil => rfl
  | cons a r ih => simp only [List.map_cons, intsOf, ih, Option.map_some]
theorem intsOf_some : ∀ {xs : List PyData} {l : List Int}, intsOf xs = some l → xs = il l
  | [], l, h => by cases h; rfl
  | x :: r, l, h => by
    cases x with
    | int i =>
      simp only [intsOf] at h
      obtain ⟨m, h1, h2⟩ := Option.map_eq_some_iff.mp h
      subst h2
      rw [intsOf_some h1]
      rfl
    | _ => cases h
end PyD
namespace PyD
open PySem PySem.Spec PyProof.Rows L2
def frs : List Str := ["abs", "all", "bool", "divmod", "enumerate", "int", "isinstance", "len", "list", "max", "min", "range", "repr", "set", "sorted", "tuple", "zip"]
def bfs : List (Str × String) := []
def cts : List (Str × PyData) := [("MOST_POINTS", .int 7)]
def cls : List ClS := [⟨"InvalidNumber", true⟩, ⟨"InvalidPairs", true⟩, ⟨"InvalidRow", true⟩]
def sbs : List (Nat × Nat × Bool) := [(0, 0, true), (0, 1, false), (0, 2, false), (1, 0, false), (1, 1, true), (1, 2, false), (2, 0, false), (2, 1, false), (2, 2, true)]
def fs0 : List FnS := []
def b_is_list : Sms := (.cons (.ret (.so (.bi .isLT (.cons (.var 0) .nil))))
  .nil)
abbrev n_is_list : List Str := ["value"]
def G0 : GT := ⟨fs0, cts, cls, frs, bfs, sbs⟩
def F0 : FnS := ⟨"is_list", ["value"], 4, run G0 1 b_is_list⟩
def fs1 : List FnS := fs0 ++ [F0]
def b_is_integer : Sms := (.cons (.ret (.so (.and (.bi .isI (.cons (.var 0) .nil)) (.nott (.bi .isB (.cons (.var 0) .nil))))))
  .nil)
abbrev n_is_integer : List Str := ["value"]
def G1 : GT := ⟨fs1, cts, cls, frs, bfs, sbs⟩
def F1 : FnS := ⟨"is_integer", ["value"], 4, run G1 1 b_is_integer⟩
def fs2 : List FnS := fs1 ++ [F1]
def b_is_position : Sms := (.cons (.ret (.so (.and (.call 1 (.cons (.var 0) .nil)) (.cmp2 .le .lt (.cst (.int 0)) (.var 0) (.var 1)))))
  .nil)
abbrev n_is_position : List Str := ["value", "many"]
def G2 : GT := ⟨fs2, cts, cls, frs, bfs, sbs⟩
def F2 : FnS := ⟨"is_position", ["value", "many"], 5, run G2 2 b_is_position⟩
def fs3 : List FnS := fs2 ++ [F2]
def b_is_pair_of : Sms := (.cons (.ife (.or (.not (.val (.bi .isT (.cons (.var 1) .nil)))) (.or (.val (.cmp .ne (.bi .len (.cons (.var 1) .nil)) (.cst (.int 2)))) (.not (.val (.bi .all (.cons (.lc (.nm 2) (.seq (.var 1)) .no (.call 2 (.cons (.var 2) (.cons (.var 0) .nil))) [("one", 2)]) .nil)))))) (.cons (.ret (.so (.cst (.bool false))))
  .nil) .nil)
  (.cons (.ret (.so (.cmp .lt (.idx (.var 1) (.cst (.int 0))) (.idx (.var 1) (.cst (.int 1))))))
  .nil))
abbrev n_is_pair_of : List Str := ["many", "value", "one"]
def G3 : GT := ⟨fs3, cts, cls, frs, bfs, sbs⟩
def F3 : FnS := ⟨"is_pair_of", ["many", "value"], 6, run G3 3 b_is_pair_of⟩
def fs4 : List FnS := fs3 ++ [F3]
def b_pairs_are_right : Sms := (.cons (.ife (.or (.not (.val (.bi .isT (.cons (.var 1) .nil)))) (.not (.val (.bi .all (.cons (.lc (.nm 2) (.seq (.var 1)) .no (.call 3 (.cons (.var 0) (.cons (.var 2) .nil))) [("one", 2)]) .nil))))) (.cons (.ret (.so (.cst (.bool false))))
  .nil) .nil)
  (.cons (.ret (.so (.bi .all (.cons (.lc (.tup [2, 3]) (.zip (.var 1) (.slc (.var 1) (.so (.cst (.int 1))) .no)) .no (.cmp .lt (.var 2) (.var 3)) [("one", 2), ("other", 3)]) .nil))))
  .nil))
abbrev n_pairs_are_right : List Str := ["many", "value", "one", "other"]
def G4 : GT := ⟨fs4, cts, cls, frs, bfs, sbs⟩
def F4 : FnS := ⟨"pairs_are_right", ["many", "value"], 7, run G4 4 b_pairs_are_right⟩
def fs5 : List FnS := fs4 ++ [F4]
def b_pairs_among : Sms := (.cons (.own 1 (.lst .nil))
  (.cons (.for_ (.tup [2, 3]) (.enum (.var 0)) (.cons (.extd 1 (.lc (.nm 4) (.seq (.slc (.var 0) (.so (.bin .add (.var 2) (.cst (.int 1)))) .no)) .no (.tup (.cons (.var 3) (.cons (.var 4) .nil))) [("other", 4)]))
  .nil))
  (.cons (.ret (.so (.var 1)))
  .nil)))
abbrev n_pairs_among : List Str := ["points", "found", "at", "one", "other"]
def G5 : GT := ⟨fs5, cts, cls, frs, bfs, sbs⟩
def F5 : FnS := ⟨"pairs_among", ["points"], 4, run G5 5 b_pairs_among⟩
def fs6 : List FnS := fs5 ++ [F5]
def b_step_is_right : Sms := (.cons (.ife (.or (.not (.val (.bi .isT (.cons (.var 2) .nil)))) (.or (.val (.cmp .ne (.bi .len (.cons (.var 2) .nil)) (.cst (.int 3)))) (.or (.not (.val (.call 2 (.cons (.idx (.var 2) (.cst (.int 0))) (.cons (.glb 0) .nil))))) (.val (.cmp .isin (.idx (.var 2) (.cst (.int 0))) (.var 0)))))) (.cons (.ret (.so (.cst (.bool false))))
  .nil) .nil)
  (.cons (.ife (.or (.not (.val (.bi .isT (.cons (.idx (.var 2) (.cst (.int 1))) .nil)))) (.not (.val (.bi .all (.cons (.lc (.nm 3) (.seq (.idx (.var 2) (.cst (.int 1)))) .no (.and (.call 2 (.cons (.var 3) (.cons (.glb 0) .nil))) (.cmp .isin (.var 3) (.var 0))) [("one", 3)]) .nil))))) (.cons (.ret (.so (.cst (.bool false))))
  .nil) .nil)
  (.cons (.ife (.not (.val (.bi .all (.cons (.lc (.tup [3, 4]) (.zip (.idx (.var 2) (.cst (.int 1))) (.slc (.idx (.var 2) (.cst (.int 1))) (.so (.cst (.int 1))) .no)) .no (.cmp .lt (.var 3) (.var 4)) [("one", 3), ("other", 4)]) .nil)))) (.cons (.ret (.so (.cst (.bool false))))
  .nil) .nil)
  (.cons (.ife (.val (.isN (.idx (.var 2) (.cst (.int 2))))) (.cons (.ret (.so (.cmp .eq (.bi .len (.cons (.idx (.var 2) (.cst (.int 1))) .nil)) (.bi .min2 (.cons (.cst (.int 2)) (.cons (.bi .len (.cons (.var 0) .nil)) .nil))))))
  .nil) .nil)
  (.cons (.ife (.or (.val (.cmp .lt (.bi .len (.cons (.var 0) .nil)) (.cst (.int 3)))) (.or (.val (.cmp .ne (.bi .len (.cons (.idx (.var 2) (.cst (.int 1))) .nil)) (.cst (.int 3)))) (.not (.val (.call 3 (.cons (.glb 0) (.cons (.idx (.var 2) (.cst (.int 2))) .nil))))))) (.cons (.ret (.so (.cst (.bool false))))
  .nil) .nil)
  (.cons (.ret (.so (.and (.cmp .isin (.idx (.var 2) (.cst (.int 2))) (.call 5 (.cons (.idx (.var 2) (.cst (.int 1))) .nil))) (.cmp .isin (.idx (.var 2) (.cst (.int 2))) (.var 1)))))
  .nil))))))
abbrev n_step_is_right : List Str := ["there", "pairs", "value", "one", "other"]
def G6 : GT := ⟨fs6, cts, cls, frs, bfs, sbs⟩
def F6 : FnS := ⟨"step_is_right", ["there", "pairs", "value"], 7, run G6 5 b_step_is_right⟩
def fs7 : List FnS := fs6 ++ [F6]
def b_behind_step : Sms := (.cons (.asg (.nm 2) (.lc (.nm 3) (.seq (.var 0)) (.so (.val (.cmp .ne (.var 3) (.idx (.var 1) (.cst (.int 2)))))) (.var 3) [("one", 3)]))
  (.cons (.ret (.so (.bi .tuple (.cons (.bi .sorted (.cons (.bin .add (.var 2) (.lc (.nm 4) (.seq (.idx (.var 1) (.cst (.int 1)))) .no (.tup (.cons (.bi .min2 (.cons (.idx (.var 1) (.cst (.int 0))) (.cons (.var 4) .nil))) (.cons (.bi .max2 (.cons (.idx (.var 1) (.cst (.int 0))) (.cons (.var 4) .nil))) .nil))) [("tie", 4)])) .nil)) .nil))))
  .nil))
abbrev n_behind_step : List Str := ["pairs", "step", "kept", "one", "tie"]
def G7 : GT := ⟨fs7, cts, cls, frs, bfs, sbs⟩
def F7 : FnS := ⟨"behind_step", ["pairs", "step"], 4, run G7 5 b_behind_step⟩
def fs8 : List FnS := fs7 ++ [F7]
def b_built_by : Sms := (.cons (.ife (.or (.not (.val (.call 0 (.cons (.var 1) .nil)))) (.val (.cmp .ne (.bi .len (.cons (.var 1) .nil)) (.var 0)))) (.cons (.ret (.so (.cst .none)))
  .nil) .nil)
  (.cons (.par [(2, true), (3, false)] (.cons (.lst .nil) (.cons (.tup .nil) .nil)))
  (.cons (.for_ (.nm 4) (.seq (.var 1)) (.cons (.ife (.or (.not (.val (.call 6 (.cons (.var 2) (.cons (.var 3) (.cons (.var 4) .nil)))))) (.val (.cmp .ge (.idx (.var 4) (.cst (.int 0))) (.var 0)))) (.cons (.ret (.so (.cst .none)))
  .nil) .nil)
  (.cons (.app 2 (.idx (.var 4) (.cst (.int 0))))
  (.cons (.asg (.nm 3) (.call 7 (.cons (.var 3) (.cons (.var 4) .nil))))
  .nil))))
  (.cons (.ret (.so (.var 3)))
  .nil))))
abbrev n_built_by : List Str := ["many", "value", "there", "pairs", "step"]
def G8 : GT := ⟨fs8, cts, cls, frs, bfs, sbs⟩
def F8 : FnS := ⟨"built_by", ["many", "value"], 8, run G8 5 b_built_by⟩
def fs9 : List FnS := fs8 ++ [F8]
def b_check_many : Sms := (.cons (.ife (.or (.not (.val (.call 1 (.cons (.var 0) .nil)))) (.not (.val (.cmp2 .le .le (.cst (.int 1)) (.var 0) (.glb 0))))) (.cons (.raise 0 (.so (.var 0)))
  .nil) .nil)
  .nil)
abbrev n_check_many : List Str := ["many"]
def G9 : GT := ⟨fs9, cts, cls, frs, bfs, sbs⟩
def F9 : FnS := ⟨"check_many", ["many"], 5, run G9 1 b_check_many⟩
def fs10 : List FnS := fs9 ++ [F9]
def b_check_pairs : Sms := (.cons (.expr (.call 9 (.cons (.var 0) .nil)))
  (.cons (.ife (.not (.val (.call 4 (.cons (.var 0) (.cons (.var 1) .nil))))) (.cons (.raise 1 (.so (.var 1)))
  .nil) .nil)
  .nil))
abbrev n_check_pairs : List Str := ["many", "pairs"]
def G10 : GT := ⟨fs10, cts, cls, frs, bfs, sbs⟩
def F10 : FnS := ⟨"check_pairs", ["many", "pairs"], 8, run G10 2 b_check_pairs⟩
def fs11 : List FnS := fs10 ++ [F10]
def b_is_row : Sms := (.cons (.expr (.call 9 (.cons (.var 0) .nil)))
  (.cons (.ret (.so (.notN (.call 8 (.cons (.var 0) (.cons (.var 1) .nil))))))
  .nil))
abbrev n_is_row : List Str := ["many", "value"]
def G11 : GT := ⟨fs11, cts, cls, frs, bfs, sbs⟩
def F11 : FnS := ⟨"is_row", ["many", "value"], 9, run G11 2 b_is_row⟩
def fs12 : List FnS := fs11 ++ [F11]
def b_row_pairs : Sms := (.cons (.expr (.call 9 (.cons (.var 0) .nil)))
  (.cons (.asg (.nm 2) (.call 8 (.cons (.var 0) (.cons (.var 1) .nil))))
  (.cons (.ife (.val (.isN (.var 2))) (.cons (.raise 2 (.so (.var 1)))
  .nil) .nil)
  (.cons (.ret (.so (.var 2)))
  .nil))))
abbrev n_row_pairs : List Str := ["many", "row", "found"]
def G12 : GT := ⟨fs12, cts, cls, frs, bfs, sbs⟩
def F12 : FnS := ⟨"row_pairs", ["many", "row"], 9, run G12 3 b_row_pairs⟩
def fs13 : List FnS := fs12 ++ [F12]
def b_does_build : Sms := (.cons (.expr (.call 10 (.cons (.var 0) (.cons (.var 1) .nil))))
  (.cons (.ret (.so (.cmp .eq (.call 8 (.cons (.var 0) (.cons (.var 2) .nil))) (.var 1))))
  .nil))
abbrev n_does_build : List Str := ["many", "pairs", "value"]
def G13 : GT := ⟨fs13, cts, cls, frs, bfs, sbs⟩
def F13 : FnS := ⟨"does_build", ["many", "pairs", "value"], 9, run G13 3 b_does_build⟩
def fs14 : List FnS := fs13 ++ [F13]
def b__law_pot : Sms := (.cons (.asg (.nm 2) (.ite (.val (.cmp .lt (.var 1) (.bi .len (.cons (.var 0) .nil)))) (.bi .abs (.cons (.idx (.var 0) (.var 1)) .nil)) (.bin .add (.bin .mul (.cst (.int 5833)) (.var 1)) (.cst (.int 1955)))))
  (.cons (.ret (.so (.lst (.cons (.bi .max2 (.cons (.cst (.int 0)) (.cons (.bin .sub (.var 2) (.bin .pow (.cst (.int 10)) (.cst (.int 18)))) .nil))) (.cons (.bin .add (.bin .mod (.bi .int (.cons (.bin .add (.bin .add (.bin .mul (.bin .mod (.bi .int (.cons (.var 2) .nil)) (.cst (.int 2147483549))) (.cst (.int 32783))) (.bin .mul (.cst (.int 6715)) (.var 1))) (.cst (.int 2039))) .nil)) (.cst (.int 2147483563))) (.cst (.int 1))) .nil)))))
  .nil))
abbrev n__law_pot : List Str := ["script", "k", "cell"]
def G14 : GT := ⟨fs14, cts, cls, frs, bfs, sbs⟩
def F14 : FnS := ⟨"_law_pot", ["script", "k"], 4, run G14 3 b__law_pot⟩
def fs15 : List FnS := fs14 ++ [F14]
def b__law_draw : Sms := (.cons (.ife (.val (.cmp .gt (.idx (.var 0) (.cst (.int 0))) (.cst (.int 0)))) (.cons (.potD 0 2 (.bi .divmod (.cons (.idx (.var 0) (.cst (.int 0))) (.cons (.var 1) .nil))))
  (.cons (.ret (.so (.var 2)))
  .nil)) .nil)
  (.cons (.potS 0 true (.bin .mod (.bi .int (.cons (.bin .add (.bin .mul (.idx (.var 0) (.cst (.int 1))) (.cst (.int 32783))) (.cst (.int 1955))) .nil)) (.cst (.int 2147483587))))
  (.cons (.ret (.so (.bin .mod (.bi .int (.cons (.bin .fdiv (.bin .mod (.bi .int (.cons (.bin .mul (.idx (.var 0) (.cst (.int 1))) (.idx (.var 0) (.cst (.int 1)))) .nil)) (.cst (.int 2147483549))) (.cst (.int 13))) .nil)) (.var 1))))
  .nil)))
abbrev n__law_draw : List Str := ["pot", "many", "digit"]
def G15 : GT := ⟨fs15, cts, cls, frs, bfs, sbs⟩
def F15 : FnS := ⟨"_law_draw", ["pot", "many"], 4, run G15 3 b__law_draw⟩
def fs16 : List FnS := fs15 ++ [F15]
def b__law_pick : Sms := (.cons (.ret (.so (.idx (.var 1) (.call 15 (.cons (.var 0) (.cons (.bi .len (.cons (.var 1) .nil)) .nil))))))
  .nil)
abbrev n__law_pick : List Str := ["pot", "some"]
def G16 : GT := ⟨fs16, cts, cls, frs, bfs, sbs⟩
def F16 : FnS := ⟨"_law_pick", ["pot", "some"], 5, run G16 2 b__law_pick⟩
def fs17 : List FnS := fs16 ++ [F16]
def b__law_mixed : Sms := (.cons (.par [(2, false), (3, true)] (.cons (.bi .list (.cons (.var 1) .nil)) (.cons (.lst .nil) .nil)))
  (.cons (.for_ (.nm 4) (.rng .no (.so (.bi .len (.cons (.var 1) .nil)))) (.cons (.asg (.nm 5) (.call 15 (.cons (.var 0) (.cons (.bi .len (.cons (.var 2) .nil)) .nil))))
  (.cons (.app 3 (.idx (.var 2) (.var 5)))
  (.cons (.asg (.nm 2) (.bin .add (.slc (.var 2) .no (.so (.var 5))) (.slc (.var 2) (.so (.bin .add (.var 5) (.cst (.int 1)))) .no)))
  .nil))))
  (.cons (.ret (.so (.var 3)))
  .nil)))
abbrev n__law_mixed : List Str := ["pot", "some", "left", "found", "turn", "at"]
def G17 : GT := ⟨fs17, cts, cls, frs, bfs, sbs⟩
def F17 : FnS := ⟨"_law_mixed", ["pot", "some"], 5, run G17 6 b__law_mixed⟩
def fs18 : List FnS := fs17 ++ [F17]
def b__law_same : Sms := (.cons (.ret (.so (.cmp .eq (.bi .repr (.cons (.var 0) .nil)) (.bi .repr (.cons (.var 1) .nil)))))
  .nil)
abbrev n__law_same : List Str := ["told", "due"]
def G18 : GT := ⟨fs18, cts, cls, frs, bfs, sbs⟩
def F18 : FnS := ⟨"_law_same", ["told", "due"], 4, run G18 2 b__law_same⟩
def fs19 : List FnS := fs18 ++ [F18]
def b__law_is_whole : Sms := (.cons (.ret (.so (.and (.bi .isI (.cons (.var 0) .nil)) (.nott (.bi .isB (.cons (.var 0) .nil))))))
  .nil)
abbrev n__law_is_whole : List Str := ["value"]
def G19 : GT := ⟨fs19, cts, cls, frs, bfs, sbs⟩
def F19 : FnS := ⟨"_law_is_whole", ["value"], 4, run G19 1 b__law_is_whole⟩
def fs20 : List FnS := fs19 ++ [F19]
def b__law_all_pairs : Sms := (.cons (.own 1 (.lst .nil))
  (.cons (.for_ (.nm 2) (.rng .no (.so (.var 0))) (.cons (.extd 1 (.lc (.nm 3) (.rng (.so (.bin .add (.var 2) (.cst (.int 1)))) (.so (.var 0))) .no (.tup (.cons (.var 2) (.cons (.var 3) .nil))) [("other", 3)]))
  .nil))
  (.cons (.ret (.so (.var 1)))
  .nil)))
abbrev n__law_all_pairs : List Str := ["many", "found", "one", "other"]
def G20 : GT := ⟨fs20, cts, cls, frs, bfs, sbs⟩
def F20 : FnS := ⟨"_law_all_pairs", ["many"], 4, run G20 4 b__law_all_pairs⟩
def fs21 : List FnS := fs20 ++ [F20]
def b__law_some_pairs : Sms := (.cons (.asg (.nm 2) (.bin .add (.cst (.int 1)) (.call 15 (.cons (.var 0) (.cons (.cst (.int 4)) .nil)))))
  (.cons (.ret (.so (.bi .tuple (.cons (.lc (.nm 3) (.seq (.call 20 (.cons (.var 1) .nil))) (.so (.val (.cmp .lt (.call 15 (.cons (.var 0) (.cons (.cst (.int 4)) .nil))) (.var 2)))) (.var 3) [("pair", 3)]) .nil))))
  .nil))
abbrev n__law_some_pairs : List Str := ["pot", "many", "chances", "pair"]
def G21 : GT := ⟨fs21, cts, cls, frs, bfs, sbs⟩
def F21 : FnS := ⟨"_law_some_pairs", ["pot", "many"], 5, run G21 4 b__law_some_pairs⟩
def fs22 : List FnS := fs21 ++ [F21]
def b__law_pair : Sms := (.cons (.ret (.so (.tup (.cons (.bi .min2 (.cons (.var 0) (.cons (.var 1) .nil))) (.cons (.bi .max2 (.cons (.var 0) (.cons (.var 1) .nil))) .nil)))))
  .nil)
abbrev n__law_pair : List Str := ["one", "other"]
def G22 : GT := ⟨fs22, cts, cls, frs, bfs, sbs⟩
def F22 : FnS := ⟨"_law_pair", ["one", "other"], 4, run G22 2 b__law_pair⟩
def fs23 : List FnS := fs22 ++ [F22]
def b__law_built : Sms := (.cons (.ife (.or (.not (.val (.bi .isLT (.cons (.var 1) .nil)))) (.val (.cmp .ne (.bi .len (.cons (.var 1) .nil)) (.var 0)))) (.cons (.ret (.so (.cst .none)))
  .nil) .nil)
  (.cons (.par [(2, false), (3, false)] (.cons (.lst .nil) (.cons (.lst .nil) .nil)))
  (.cons (.for_ (.tup [4, 5]) (.enum (.var 1)) (.cons (.ife (.or (.not (.val (.bi .isT (.cons (.var 5) .nil)))) (.or (.val (.cmp .ne (.bi .len (.cons (.var 5) .nil)) (.cst (.int 3)))) (.or (.not (.val (.call 19 (.cons (.idx (.var 5) (.cst (.int 0))) .nil)))) (.or (.not (.val (.cmp2 .le .lt (.cst (.int 0)) (.idx (.var 5) (.cst (.int 0))) (.var 0)))) (.or (.val (.cmp .isin (.idx (.var 5) (.cst (.int 0))) (.var 2))) (.not (.val (.bi .isT (.cons (.idx (.var 5) (.cst (.int 1))) .nil))))))))) (.cons (.ret (.so (.cst .none)))
  .nil) .nil)
  (.cons (.asg (.tup [6, 7, 8]) (.var 5))
  (.cons (.ife (.or (.not (.val (.bi .all (.cons (.lc (.nm 9) (.seq (.var 7)) .no (.and (.call 19 (.cons (.var 9) .nil)) (.cmp .isin (.var 9) (.var 2))) [("one", 9)]) .nil)))) (.val (.cmp .ne (.bi .list (.cons (.var 7) .nil)) (.bi .sortedSet (.cons (.var 7) .nil))))) (.cons (.ret (.so (.cst .none)))
  .nil) .nil)
  (.cons (.ife (.val (.isN (.var 8))) (.cons (.ife (.val (.cmp .ne (.bi .len (.cons (.var 7) .nil)) (.bi .min2 (.cons (.var 4) (.cons (.cst (.int 2)) .nil))))) (.cons (.ret (.so (.cst .none)))
  .nil) .nil)
  .nil) (.cons (.ife (.or (.val (.cmp .lt (.var 4) (.cst (.int 3)))) (.or (.val (.cmp .ne (.bi .len (.cons (.var 7) .nil)) (.cst (.int 3)))) (.or (.not (.val (.bi .isT (.cons (.var 8) .nil)))) (.or (.val (.cmp .ne (.bi .len (.cons (.var 8) .nil)) (.cst (.int 2)))) (.or (.not (.val (.bi .all (.cons (.lc (.nm 9) (.seq (.var 8)) .no (.and (.call 19 (.cons (.var 9) .nil)) (.cmp .isin (.var 9) (.var 7))) [("one", 9)]) .nil)))) (.val (.cmp .notin (.var 8) (.var 3)))))))) (.cons (.ret (.so (.cst .none)))
  .nil) .nil)
  (.cons (.asg (.nm 3) (.lc (.nm 10) (.seq (.var 3)) (.so (.val (.cmp .ne (.var 10) (.var 8)))) (.var 10) [("pair", 10)]))
  .nil)))
  (.cons (.asg (.nm 3) (.bin .add (.var 3) (.lc (.nm 9) (.seq (.var 7)) .no (.call 22 (.cons (.var 9) (.cons (.var 6) .nil))) [("one", 9)])))
  (.cons (.asg (.nm 2) (.bin .add (.var 2) (.lst (.cons (.var 6) .nil))))
  .nil)))))))
  (.cons (.ret (.so (.bi .tuple (.cons (.bi .sorted (.cons (.var 3) .nil)) .nil))))
  .nil))))
abbrev n__law_built : List Str := ["many", "value", "there", "pairs", "at", "step", "point", "ties", "gone", "one", "pair"]
def G23 : GT := ⟨fs23, cts, cls, frs, bfs, sbs⟩
def F23 : FnS := ⟨"_law_built", ["many", "value"], 5, run G23 11 b__law_built⟩
def fs24 : List FnS := fs23 ++ [F23]
def b__law_drawn_row : Sms := (.cons (.asg (.nm 2) (.bi .list (.cons (.call 17 (.cons (.var 0) (.cons (.lrg false .no (.so (.var 1))) .nil))) .nil)))
  (.cons (.par [(3, true), (4, false)] (.cons (.lst .nil) (.cons (.lst .nil) .nil)))
  (.cons (.for_ (.tup [5, 6]) (.enum (.var 2)) (.cons (.par [(7, false), (8, false)] (.cons (.bi .tuple (.cons (.bi .sorted (.cons (.slc (.call 17 (.cons (.var 0) (.cons (.slc (.var 2) .no (.so (.var 5))) .nil))) .no (.so (.cst (.int 2)))) .nil)) .nil)) (.cons (.cst .none) .nil)))
  (.cons (.ife (.and (.val (.cmp .gt (.var 5) (.cst (.int 2)))) (.val (.cmp .eq (.call 15 (.cons (.var 0) (.cons (.cst (.int 2)) .nil))) (.cst (.int 0))))) (.cons (.asg (.nm 9) (.bi .tuple (.cons (.bi .sorted (.cons (.slc (.call 17 (.cons (.var 0) (.cons (.slc (.var 2) .no (.so (.var 5))) .nil))) .no (.so (.cst (.int 3)))) .nil)) .nil)))
  (.cons (.asg (.nm 10) (.lc (.nm 11) (.seq (.var 4)) (.so (.and (.val (.cmp .isin (.idx (.var 11) (.cst (.int 0))) (.var 9))) (.val (.cmp .isin (.idx (.var 11) (.cst (.int 1))) (.var 9))))) (.var 11) [("pair", 11)]))
  (.cons (.ife (.val (.cmp .ne (.var 10) (.lst .nil))) (.cons (.par [(7, false), (8, false)] (.cons (.var 9) (.cons (.call 16 (.cons (.var 0) (.cons (.var 10) .nil))) .nil)))
  .nil) .nil)
  .nil))) .nil)
  (.cons (.app 3 (.tup (.cons (.var 6) (.cons (.var 7) (.cons (.var 8) .nil)))))
  (.cons (.asg (.nm 4) (.bin .add (.lc (.nm 11) (.seq (.var 4)) (.so (.val (.cmp .ne (.var 11) (.var 8)))) (.var 11) [("pair", 11)]) (.lc (.nm 12) (.seq (.var 7)) .no (.call 22 (.cons (.var 12) (.cons (.var 6) .nil))) [("one", 12)])))
  .nil)))))
  (.cons (.ret (.so (.var 3)))
  .nil))))
abbrev n__law_drawn_row : List Str := ["pot", "many", "order", "steps", "pairs", "at", "point", "ties", "gone", "some", "there", "pair", "one"]
def G24 : GT := ⟨fs24, cts, cls, frs, bfs, sbs⟩
def F24 : FnS := ⟨"_law_drawn_row", ["pot", "many"], 6, run G24 13 b__law_drawn_row⟩
def fs25 : List FnS := fs24 ++ [F24]
def b__law_bent : Sms := (.cons (.asg (.nm 3) (.call 15 (.cons (.var 0) (.cons (.var 1) .nil))))
  (.cons (.asg (.tup [4, 5, 6]) (.idx (.var 2) (.var 3)))
  (.cons (.asg (.nm 7) (.lst (.cons (.var 2) (.cons (.bi .tuple (.cons (.var 2) .nil)) (.cons (.rev (.var 2)) (.cons (.slc (.var 2) .no (.so (.neg (.cst (.int 1))))) (.cons (.bin .add (.var 2) (.slc (.var 2) .no (.so (.cst (.int 1))))) (.cons (.bin .add (.slc (.var 2) (.so (.cst (.int 1))) .no) (.slc (.var 2) .no (.so (.cst (.int 1))))) (.cons (.lst .nil) (.cons (.cst .none) (.cons (.cst (.int 0)) (.cons (.cst (.str "x")) (.cons .dct .nil)))))))))))))
  (.cons (.own 8 (.lc (.nm 9) (.seq (.tup (.cons (.rev (.var 5)) (.cons (.slc (.var 5) .no (.so (.neg (.cst (.int 1))))) (.cons (.bin .add (.var 5) (.tup (.cons (.var 4) .nil))) (.cons (.bin .add (.var 5) (.tup (.cons (.var 1) .nil))) (.cons (.bi .list (.cons (.var 5) .nil)) (.cons (.lrg true .no (.so (.var 3))) (.cons (.cst .none) (.cons (.bin .add (.var 5) (.slc (.var 5) .no (.so (.cst (.int 1))))) (.cons (.bin .mul (.tup (.cons (.cst (.bool true)) .nil)) (.bi .len (.cons (.var 5) .nil))) .nil))))))))))) .no (.tup (.cons (.var 4) (.cons (.var 9) (.cons (.var 6) .nil)))) [("late", 9)]))
  (.cons (.extd 8 (.lc (.nm 9) (.seq (.tup (.cons (.cst .none) (.cons (.tup (.cons (.cst (.int 0)) (.cons (.cst (.int 1)) .nil))) (.cons (.slc (.var 5) .no (.so (.cst (.int 2)))) (.cons (.slc (.rev (.var 5)) .no (.so (.cst (.int 2)))) (.cons (.idx (.bin .add (.var 5) (.tup (.cons (.cst (.int 0)) (.cons (.cst (.int 0)) .nil)))) (.cst (.int 0))) (.cons (.lst (.cons (.cst (.int 0)) (.cons (.cst (.int 1)) .nil))) (.cons (.tup (.cons (.cst (.int 0)) (.cons (.cst (.int 1)) (.cons (.cst (.int 2)) .nil)))) (.cons (.tup (.cons (.var 4) (.cons (.cst (.int 0)) .nil))) .nil)))))))))) .no (.tup (.cons (.var 4) (.cons (.var 5) (.cons (.var 9) .nil)))) [("late", 9)]))
  (.cons (.extd 8 (.lc (.nm 9) (.seq (.tup (.cons (.bin .mod (.bi .int (.cons (.bin .add (.var 4) (.cst (.int 1))) .nil)) (.var 1)) (.cons (.var 1) (.cons (.neg (.cst (.int 1))) (.cons (.cst (.bool true)) (.cons (.cst .none) (.cons (.tup (.cons (.var 4) .nil)) .nil)))))))) .no (.tup (.cons (.var 9) (.cons (.var 5) (.cons (.var 6) .nil)))) [("late", 9)]))
  (.cons (.extd 8 (.lst (.cons (.tup (.cons (.var 4) (.cons (.var 5) .nil))) (.cons (.lst (.cons (.var 4) (.cons (.var 5) (.cons (.var 6) .nil)))) (.cons (.tup (.cons (.var 4) (.cons (.var 5) (.cons (.var 6) (.cons (.cst (.int 0)) .nil))))) (.cons (.cst .none) (.cons (.idx (.var 2) (.cst (.int 0))) .nil)))))))
  (.cons (.ret (.so (.bin .add (.var 7) (.lc (.nm 9) (.seq (.var 8)) .no (.bin .add (.bin .add (.slc (.var 2) .no (.so (.var 3))) (.lst (.cons (.var 9) .nil))) (.slc (.var 2) (.so (.bin .add (.var 3) (.cst (.int 1)))) .no)) [("late", 9)]))))
  .nil))))))))
abbrev n__law_bent : List Str := ["pot", "many", "row", "at", "point", "ties", "gone", "found", "odds", "late"]
def G25 : GT := ⟨fs25, cts, cls, frs, bfs, sbs⟩
def F25 : FnS := ⟨"_law_bent", ["pot", "many", "row"], 5, run G25 10 b__law_bent⟩
def fs26 : List FnS := fs25 ++ [F25]
def b__law_heard : Sms := (.cons (.asg (.nm 1) (.lst (.cons (.cst (.str "none")) .nil)))
  (.cons (.tryV (.cons (.asg (.nm 1) (.lst (.cons (.cst (.str "told")) (.cons (.callL 0) .nil))))
  .nil) 2 2 1 "row")
  (.cons (.ret (.so (.var 1)))
  .nil)))
abbrev n__law_heard : List Str := ["call", "told", "e"]
def G26 : GT := ⟨fs26, cts, cls, frs, bfs, sbs⟩
def F26 : FnS := ⟨"_law_heard", ["call"], 22, run G26 3 b__law_heard⟩
def fs27 : List FnS := fs26 ++ [F26]
def ls__law_value_right : Exs := (.cons (.call 12 (.cons (.var 0) (.cons (.var 2) .nil)))
  (.cons (.callk 12 .nil (.cons (.var 2) (.cons (.var 0) .nil)) [1, 0])
  .nil))
def b__law_value_right : Sms := (.cons (.asg (.nm 3) (.call 23 (.cons (.var 0) (.cons (.var 2) .nil))))
  (.cons (.asg (.nm 4) (.lst (.cons (.notN (.var 3)) (.cons (.and (.notN (.var 3)) (.cmp .eq (.var 3) (.var 1))) .nil))))
  (.cons (.asg (.nm 5) (.lst (.cons (.call 11 (.cons (.var 0) (.cons (.var 2) .nil))) (.cons (.call 13 (.cons (.var 0) (.cons (.var 1) (.cons (.var 2) .nil)))) .nil))))
  (.cons (.ife (.not (.val (.call 18 (.cons (.lst (.cons (.var 5) (.cons (.lst (.cons (.callk 11 .nil (.cons (.var 2) (.cons (.var 0) .nil)) [1, 0]) (.cons (.callk 13 .nil (.cons (.var 2) (.cons (.var 1) (.cons (.var 0) .nil))) [2, 1, 0]) .nil))) .nil))) (.cons (.lst (.cons (.var 4) (.cons (.var 4) .nil))) .nil))))) (.cons (.ret (.so (.cst (.bool false))))
  .nil) .nil)
  (.cons (.lamNew 6 0)
  (.cons (.lamApp 6 1)
  (.cons (.asg (.nm 7) (.ite (.val (.notN (.var 3))) (.lst (.cons (.cst (.str "told")) (.cons (.var 3) .nil))) (.lst (.cons (.cst (.str "row")) (.cons (.bi .repr (.cons (.var 2) .nil)) .nil)))))
  (.cons (.ret (.so (.call 18 (.cons (.heard 26 6 ls__law_value_right) (.cons (.lst (.cons (.var 7) (.cons (.var 7) .nil))) .nil)))))
  .nil))))))))
abbrev n__law_value_right : List Str := ["many", "pairs", "value", "built", "due", "told", "calls", "late", "call"]
def G27 : GT := ⟨fs27, cts, cls, frs, bfs, sbs⟩
def F27 : FnS := ⟨"_law_value_right", ["many", "pairs", "value"], 23, run G27 9 b__law_value_right⟩
def fs28 : List FnS := fs27 ++ [F27]
def b__law_right : Sms := (.cons (.for_ (.nm 1) (.rng .no (.so (.cst (.int 3)))) (.cons (.asg (.nm 2) (.bin .add (.cst (.int 1)) (.call 15 (.cons (.var 0) (.cons (.cst (.int 6)) .nil)))))
  (.cons (.asg (.nm 3) (.call 24 (.cons (.var 0) (.cons (.var 2) .nil))))
  (.cons (.par [(4, false), (5, false)] (.cons (.call 23 (.cons (.var 2) (.cons (.var 3) .nil))) (.cons (.call 24 (.cons (.var 0) (.cons (.var 2) .nil))) .nil)))
  (.cons (.ife (.or (.not (.val (.call 27 (.cons (.var 2) (.cons (.var 4) (.cons (.var 5) .nil)))))) (.not (.val (.call 27 (.cons (.var 2) (.cons (.call 21 (.cons (.var 0) (.cons (.var 2) .nil))) (.cons (.var 3) .nil))))))) (.cons (.ret (.so (.cst (.bool false))))
  .nil) .nil)
  (.cons (.for_ (.nm 6) (.seq (.call 25 (.cons (.var 0) (.cons (.var 2) (.cons (.var 3) .nil))))) (.cons (.ife (.not (.val (.call 27 (.cons (.var 2) (.cons (.var 4) (.cons (.var 6) .nil)))))) (.cons (.ret (.so (.cst (.bool false))))
  .nil) .nil)
  .nil))
  .nil))))))
  (.cons (.ret (.so (.cst (.bool true))))
  .nil))
abbrev n__law_right : List Str := ["pot", "turn", "many", "row", "pairs", "other", "value"]
def G28 : GT := ⟨fs28, cts, cls, frs, bfs, sbs⟩
def F28 : FnS := ⟨"_law_right", ["pot"], 24, run G28 7 b__law_right⟩
def fs29 : List FnS := fs28 ++ [F28]
def b_law : Sms := (.cons (.ret (.so (.bi .all (.cons (.lc (.nm 1) (.rng .no (.so (.bi .max2 (.cons (.cst (.int 1)) (.cons (.bi .min2 (.cons (.cst (.int 2)) (.cons (.bi .len (.cons (.var 0) .nil)) .nil))) .nil))))) .no (.potCall 28 14 (.cons (.var 0) (.cons (.var 1) .nil))) [("k", 1)]) .nil))))
  .nil)
abbrev n_law : List Str := ["script", "k"]
def G29 : GT := ⟨fs29, cts, cls, frs, bfs, sbs⟩
def F29 : FnS := ⟨"law", ["script"], 25, run G29 2 b_law⟩
def fs30 : List FnS := fs29 ++ [F29]
def G30 : GT := ⟨fs30, cts, cls, frs, bfs, sbs⟩
def x__law_pot : Sm := (.asg (.nm 2) (.ite (.val (.cmp .lt (.var 1) (.bi .len (.cons (.var 0) .nil)))) (.bi .abs (.cons (.idx (.var 0) (.var 1)) .nil)) (.bin .add (.bin .mul (.cst (.int 5833)) (.var 1)) (.cst (.int 1955)))))
def e__law_pot : Exs := (.cons (.bi .max2 (.cons (.cst (.int 0)) (.cons (.bin .sub (.var 2) (.bin .pow (.cst (.int 10)) (.cst (.int 18)))) .nil))) (.cons (.bin .add (.bin .mod (.bi .int (.cons (.bin .add (.bin .add (.bin .mul (.bin .mod (.bi .int (.cons (.var 2) .nil)) (.cst (.int 2147483549))) (.cst (.int 32783))) (.bin .mul (.cst (.int 6715)) (.var 1))) (.cst (.int 2039))) .nil)) (.cst (.int 2147483563))) (.cst (.int 1))) .nil))
end PyD
-- special: {}
namespace PyD
open PySem PySem.Spec PyProof.Rows L2

@[simp] theorem p_F0 : F0.ps.length = 1 := by
  delta F0
  rfl
theorem s_F0 : F0.sem = run G0 1 b_is_list := by
  delta F0
  rfl
@[simp] theorem k_G0 : G0.consts = cts := by
  delta G0
  rfl
@[simp] theorem p_F1 : F1.ps.length = 1 := by
  delta F1
  rfl
theorem s_F1 : F1.sem = run G1 1 b_is_integer := by
  delta F1
  rfl
@[simp] theorem k_G1 : G1.consts = cts := by
  delta G1
  rfl
@[simp] theorem c_2_1 (as st) : callG G2 1 as st = callF F1 as st := callG_at (by kernel_rfl) as st
@[simp] theorem p_F2 : F2.ps.length = 2 := by
  delta F2
  rfl
theorem s_F2 : F2.sem = run G2 2 b_is_position := by
  delta F2
  rfl
@[simp] theorem k_G2 : G2.consts = cts := by
  delta G2
  rfl
@[simp] theorem c_3_2 (as st) : callG G3 2 as st = callF F2 as st := callG_at (by kernel_rfl) as st
@[simp] theorem p_F3 : F3.ps.length = 2 := by
  delta F3
  rfl
theorem s_F3 : F3.sem = run G3 3 b_is_pair_of := by
  delta F3
  rfl
@[simp] theorem k_G3 : G3.consts = cts := by
  delta G3
  rfl
@[simp] theorem c_4_3 (as st) : callG G4 3 as st = callF F3 as st := callG_at (by kernel_rfl) as st
@[simp] theorem p_F4 : F4.ps.length = 2 := by
  delta F4
  rfl
theorem s_F4 : F4.sem = run G4 4 b_pairs_are_right := by
  delta F4
  rfl
@[simp] theorem k_G4 : G4.consts = cts := by
  delta G4
  rfl
@[simp] theorem p_F5 : F5.ps.length = 1 := by
  delta F5
  rfl
theorem s_F5 : F5.sem = run G5 5 b_pairs_among := by
  delta F5
  rfl
@[simp] theorem k_G5 : G5.consts = cts := by
  delta G5
  rfl
@[simp] theorem c_6_2 (as st) : callG G6 2 as st = callF F2 as st := callG_at (by kernel_rfl) as st
@[simp] theorem c_6_3 (as st) : callG G6 3 as st = callF F3 as st := callG_at (by kernel_rfl) as st
@[simp] theorem c_6_5 (as st) : callG G6 5 as st = callF F5 as st := callG_at (by kernel_rfl) as st
@[simp] theorem p_F6 : F6.ps.length = 3 := by
  delta F6
  rfl
theorem s_F6 : F6.sem = run G6 5 b_step_is_right := by
  delta F6
  rfl
@[simp] theorem k_G6 : G6.consts = cts := by
  delta G6
  rfl
@[simp] theorem p_F7 : F7.ps.length = 2 := by
  delta F7
  rfl
theorem s_F7 : F7.sem = run G7 5 b_behind_step := by
  delta F7
  rfl
@[simp] theorem k_G7 : G7.consts = cts := by
  delta G7
  rfl
@[simp] theorem c_8_0 (as st) : callG G8 0 as st = callF F0 as st := callG_at (by kernel_rfl) as st
@[simp] theorem c_8_6 (as st) : callG G8 6 as st = callF F6 as st := callG_at (by kernel_rfl) as st
@[simp] theorem c_8_7 (as st) : callG G8 7 as st = callF F7 as st := callG_at (by kernel_rfl) as st
@[simp] theorem p_F8 : F8.ps.length = 2 := by
  delta F8
  rfl
theorem s_F8 : F8.sem = run G8 5 b_built_by := by
  delta F8
  rfl
@[simp] theorem k_G8 : G8.consts = cts := by
  delta G8
  rfl
@[simp] theorem c_9_1 (as st) : callG G9 1 as st = callF F1 as st := callG_at (by kernel_rfl) as st
@[simp] theorem p_F9 : F9.ps.length = 1 := by
  delta F9
  rfl
theorem s_F9 : F9.sem = run G9 1 b_check_many := by
  delta F9
  rfl
@[simp] theorem k_G9 : G9.consts = cts := by
  delta G9
  rfl
@[simp] theorem c_10_4 (as st) : callG G10 4 as st = callF F4 as st := callG_at (by kernel_rfl) as st
@[simp] theorem c_10_9 (as st) : callG G10 9 as st = callF F9 as st := callG_at (by kernel_rfl) as st
@[simp] theorem p_F10 : F10.ps.length = 2 := by
  delta F10
  rfl
theorem s_F10 : F10.sem = run G10 2 b_check_pairs := by
  delta F10
  rfl
@[simp] theorem k_G10 : G10.consts = cts := by
  delta G10
  rfl
@[simp] theorem c_11_8 (as st) : callG G11 8 as st = callF F8 as st := callG_at (by kernel_rfl) as st
@[simp] theorem c_11_9 (as st) : callG G11 9 as st = callF F9 as st := callG_at (by kernel_rfl) as st
@[simp] theorem p_F11 : F11.ps.length = 2 := by
  delta F11
  rfl
theorem s_F11 : F11.sem = run G11 2 b_is_row := by
  delta F11
  rfl
@[simp] theorem k_G11 : G11.consts = cts := by
  delta G11
  rfl
@[simp] theorem c_12_8 (as st) : callG G12 8 as st = callF F8 as st := callG_at (by kernel_rfl) as st
@[simp] theorem c_12_9 (as st) : callG G12 9 as st = callF F9 as st := callG_at (by kernel_rfl) as st
@[simp] theorem p_F12 : F12.ps.length = 2 := by
  delta F12
  rfl
theorem s_F12 : F12.sem = run G12 3 b_row_pairs := by
  delta F12
  rfl
@[simp] theorem k_G12 : G12.consts = cts := by
  delta G12
  rfl
@[simp] theorem c_13_8 (as st) : callG G13 8 as st = callF F8 as st := callG_at (by kernel_rfl) as st
@[simp] theorem c_13_10 (as st) : callG G13 10 as st = callF F10 as st := callG_at (by kernel_rfl) as st
@[simp] theorem p_F13 : F13.ps.length = 3 := by
  delta F13
  rfl
theorem s_F13 : F13.sem = run G13 3 b_does_build := by
  delta F13
  rfl
@[simp] theorem k_G13 : G13.consts = cts := by
  delta G13
  rfl
@[simp] theorem p_F14 : F14.ps.length = 2 := by
  delta F14
  rfl
theorem s_F14 : F14.sem = run G14 3 b__law_pot := by
  delta F14
  rfl
@[simp] theorem k_G14 : G14.consts = cts := by
  delta G14
  rfl
@[simp] theorem p_F15 : F15.ps.length = 2 := by
  delta F15
  rfl
theorem s_F15 : F15.sem = run G15 3 b__law_draw := by
  delta F15
  rfl
@[simp] theorem k_G15 : G15.consts = cts := by
  delta G15
  rfl
@[simp] theorem c_16_15 (as st) : callG G16 15 as st = callF F15 as st := callG_at (by kernel_rfl) as st
@[simp] theorem p_F16 : F16.ps.length = 2 := by
  delta F16
  rfl
theorem s_F16 : F16.sem = run G16 2 b__law_pick := by
  delta F16
  rfl
@[simp] theorem k_G16 : G16.consts = cts := by
  delta G16
  rfl
@[simp] theorem c_17_15 (as st) : callG G17 15 as st = callF F15 as st := callG_at (by kernel_rfl) as st
@[simp] theorem p_F17 : F17.ps.length = 2 := by
  delta F17
  rfl
theorem s_F17 : F17.sem = run G17 6 b__law_mixed := by
  delta F17
  rfl
@[simp] theorem k_G17 : G17.consts = cts := by
  delta G17
  rfl
@[simp] theorem p_F18 : F18.ps.length = 2 := by
  delta F18
  rfl
theorem s_F18 : F18.sem = run G18 2 b__law_same := by
  delta F18
  rfl
@[simp] theorem k_G18 : G18.consts = cts := by
  delta G18
  rfl
@[simp] theorem p_F19 : F19.ps.length = 1 := by
  delta F19
  rfl
theorem s_F19 : F19.sem = run G19 1 b__law_is_whole := by
  delta F19
  rfl
@[simp] theorem k_G19 : G19.consts = cts := by
  delta G19
  rfl
@[simp] theorem p_F20 : F20.ps.length = 1 := by
  delta F20
  rfl
theorem s_F20 : F20.sem = run G20 4 b__law_all_pairs := by
  delta F20
  rfl
@[simp] theorem k_G20 : G20.consts = cts := by
  delta G20
  rfl
@[simp] theorem c_21_15 (as st) : callG G21 15 as st = callF F15 as st := callG_at (by kernel_rfl) as st
@[simp] theorem c_21_20 (as st) : callG G21 20 as st = callF F20 as st := callG_at (by kernel_rfl) as st
@[simp] theorem p_F21 : F21.ps.length = 2 := by
  delta F21
  rfl
theorem s_F21 : F21.sem = run G21 4 b__law_some_pairs := by
  delta F21
  rfl
@[simp] theorem k_G21 : G21.consts = cts := by
  delta G21
  rfl
@[simp] theorem p_F22 : F22.ps.length = 2 := by
  delta F22
  rfl
theorem s_F22 : F22.sem = run G22 2 b__law_pair := by
  delta F22
  rfl
@[simp] theorem k_G22 : G22.consts = cts := by
  delta G22
  rfl
@[simp] theorem c_23_19 (as st) : callG G23 19 as st = callF F19 as st := callG_at (by kernel_rfl) as st
@[simp] theorem c_23_22 (as st) : callG G23 22 as st = callF F22 as st := callG_at (by kernel_rfl) as st
@[simp] theorem p_F23 : F23.ps.length = 2 := by
  delta F23
  rfl
theorem s_F23 : F23.sem = run G23 11 b__law_built := by
  delta F23
  rfl
@[simp] theorem k_G23 : G23.consts = cts := by
  delta G23
  rfl
@[simp] theorem c_24_15 (as st) : callG G24 15 as st = callF F15 as st := callG_at (by kernel_rfl) as st
@[simp] theorem c_24_16 (as st) : callG G24 16 as st = callF F16 as st := callG_at (by kernel_rfl) as st
@[simp] theorem c_24_17 (as st) : callG G24 17 as st = callF F17 as st := callG_at (by kernel_rfl) as st
@[simp] theorem c_24_22 (as st) : callG G24 22 as st = callF F22 as st := callG_at (by kernel_rfl) as st
@[simp] theorem p_F24 : F24.ps.length = 2 := by
  delta F24
  rfl
theorem s_F24 : F24.sem = run G24 13 b__law_drawn_row := by
  delta F24
  rfl
@[simp] theorem k_G24 : G24.consts = cts := by
  delta G24
  rfl
@[simp] theorem c_25_15 (as st) : callG G25 15 as st = callF F15 as st := callG_at (by kernel_rfl) as st
@[simp] theorem p_F25 : F25.ps.length = 3 := by
  delta F25
  rfl
theorem s_F25 : F25.sem = run G25 10 b__law_bent := by
  delta F25
  rfl
@[simp] theorem k_G25 : G25.consts = cts := by
  delta G25
  rfl
@[simp] theorem p_F26 : F26.ps.length = 1 := by
  delta F26
  rfl
theorem s_F26 : F26.sem = run G26 3 b__law_heard := by
  delta F26
  rfl
@[simp] theorem k_G26 : G26.consts = cts := by
  delta G26
  rfl
@[simp] theorem c_27_11 (as st) : callG G27 11 as st = callF F11 as st := callG_at (by kernel_rfl) as st
@[simp] theorem c_27_12 (as st) : callG G27 12 as st = callF F12 as st := callG_at (by kernel_rfl) as st
@[simp] theorem c_27_13 (as st) : callG G27 13 as st = callF F13 as st := callG_at (by kernel_rfl) as st
@[simp] theorem c_27_18 (as st) : callG G27 18 as st = callF F18 as st := callG_at (by kernel_rfl) as st
@[simp] theorem c_27_23 (as st) : callG G27 23 as st = callF F23 as st := callG_at (by kernel_rfl) as st
@[simp] theorem p_F27 : F27.ps.length = 3 := by
  delta F27
  rfl
theorem s_F27 : F27.sem = run G27 9 b__law_value_right := by
  delta F27
  rfl
@[simp] theorem k_G27 : G27.consts = cts := by
  delta G27
  rfl
@[simp] theorem c_28_15 (as st) : callG G28 15 as st = callF F15 as st := callG_at (by kernel_rfl) as st
@[simp] theorem c_28_21 (as st) : callG G28 21 as st = callF F21 as st := callG_at (by kernel_rfl) as st
@[simp] theorem c_28_23 (as st) : callG G28 23 as st = callF F23 as st := callG_at (by kernel_rfl) as st
@[simp] theorem c_28_24 (as st) : callG G28 24 as st = callF F24 as st := callG_at (by kernel_rfl) as st
@[simp] theorem c_28_25 (as st) : callG G28 25 as st = callF F25 as st := callG_at (by kernel_rfl) as st
@[simp] theorem c_28_27 (as st) : callG G28 27 as st = callF F27 as st := callG_at (by kernel_rfl) as st
@[simp] theorem p_F28 : F28.ps.length = 1 := by
  delta F28
  rfl
theorem s_F28 : F28.sem = run G28 7 b__law_right := by
  delta F28
  rfl
@[simp] theorem k_G28 : G28.consts = cts := by
  delta G28
  rfl
@[simp] theorem p_F29 : F29.ps.length = 1 := by
  delta F29
  rfl
theorem s_F29 : F29.sem = run G29 2 b_law := by
  delta F29
  rfl
@[simp] theorem k_G29 : G29.consts = cts := by
  delta G29
  rfl
end PyD
namespace PyD
open PySem PySem.Spec PyProof.Rows L2
def isInt : PyData → Bool
  | .int _ => true
  | _ => false
@[simp] theorem e_is_list (d : PyData) (st : Pot) : F0.sem [.d d] st = .ok (.d (.bool (seqOf d).isSome)) st := by
  cases d <;> rfl
@[simp] theorem e_is_integer (d : PyData) (st : Pot) : F1.sem [.d d] st = .ok (.d (.bool (isInt d))) st := by
  cases d <;> rfl
def isPos (d : PyData) (m : Int) : Bool := match d with
  | .int i => decide (0 ≤ i ∧ i < m)
  | _ => false
@[simp] theorem e_is_position (d : PyData) (m : Int) (st : Pot) : F2.sem [.d d, .d (.int m)] st = .ok (.d (.bool (isPos d m))) st := by
  rw [s_F2]
  cases d <;> simp [run_eq, b_is_position, callF, isInt, isPos]
  split <;> simp_all
  omega
def isPair (m : Int) (d : PyData) : Bool := match d with
  | .tuple [.int i, .int j] => decide (0 ≤ i ∧ i < m ∧ 0 ≤ j ∧ j < m ∧ i < j)
  | _ => false
@[simp] theorem e_is_pair_of (d : PyData) (m : Int) (st : Pot) : F3.sem [.d (.int m), .d d] st = .ok (.d (.bool (isPair m d))) st := by
  rw [s_F3]
  cases d <;> simp [run_eq, b_is_pair_of, callF, isPair, biD]
  rename_i xs
  split
  · rename_i h
    match xs, h with
    | [a, b], _ =>
      simp [ev_lc, compGo, lcTurn, bindT, blkS, wipeS, dropF, callF, isPot, seqR, seqOf, biD, flags, idxD, atD, L2.ixN]
      cases a <;> simp [isPos]
      cases b <;> simp [isPos]
      split
      · rename_i h
        simp; omega
      · rename_i h
        have h2 := not_or.mp h
        simp at h2
        simp [h2]
  · rename_i h
    match xs, h with
    | [], _ => simp
    | [a], _ => simp
    | a :: b :: c :: r, _ => simp
/-- right pairs of so many points -/
def RP (m : Int) (ps : List (Int × Int)) : Prop := (∀ p ∈ ps, 0 ≤ p.1 ∧ p.1 < p.2 ∧ p.2 < m) ∧ ps.Pairwise (fun a b => ltP a b = true)
theorem isPair_pt {m : Int} {p : Int × Int} (h : 0 ≤ p.1 ∧ p.1 < p.2 ∧ p.2 < m) : isPair m (pt p) = true := by
  simp only [pt, isPair, decide_eq_true_eq]; omega
theorem zip_lt {ps : List (Int × Int)} (h : ps.Pairwise (fun a b => ltP a b = true)) : ((ps.zip (ps.drop 1)).all fun z => ltP z.1 z.2) = true := by
  induction ps with
  | nil => rfl
  | cons a r ih =>
    cases r with
    | nil => rfl
    | cons b r =>
      simp only [List.drop_succ_cons, List.drop_zero, List.zip_cons_cons, List.all_cons, Bool.and_eq_true]
      exact ⟨(List.pairwise_cons.mp h).1 b (List.mem_cons_self ..), by simpa using ih (List.pairwise_cons.mp h).2⟩
@[simp] theorem e_pairs_are_right {m : Int} {ps : List (Int × Int)} (st : Pot) (h : RP m ps) : F4.sem [.d (.int m), .d (.tuple (pl ps))] st = .ok (.d (.bool true)) st := by
  rw [s_F4]
  simp [run_eq, b_pairs_are_right]
  rw [lc_map (zs := ps) (f := pt) (k := false) (fun p => .bool (isPair m (pt p))) (by simp [seqR, seqOf]) (fun p hp => by simp [lcTurn, bindT, blkS, wipeS, dropF, callF])]
  have h1 : (ps.all fun p => isPair m (pt p)) = true := by
    rw [List.all_eq_true]
    exact fun p hp => isPair_pt (h.1 p hp)
  simp [h1]
  rw [lc_map (zs := ps.zip (ps.drop 1)) (f := fun z => .tuple [pt z.1, pt z.2]) (k := false) (fun z => .bool (ltP z.1 z.2))]
  · simpa using zip_lt h.2
  · simp [← zipD_map]
  · intro z hz
    simp [lcTurn, bindT, blkS, wipeS, dropF]
@[simp] theorem e_among3 (a b c : Int) (st : Pot) : F5.sem [.d (.tuple [.int a, .int b, .int c])] st = .ok (.d (.list [pt (a, b), pt (a, c), pt (b, c)])) st := by
  rw [s_F5]
  simp [run_eq, b_pairs_among, enumD, forTurn, bindT, ex_extd, ev_lc, compGo, lcTurn, blkS, wipeS, dropF, pt, sz]
def inTs (ts : List Int) : PyData → Bool
  | .int i => decide (0 ≤ i ∧ i < 7 ∧ i ∈ ts)
  | _ => false
def ascI (l : List Int) : Bool := (l.zip l.tail).all fun z => decide (z.1 < z.2)
@[simp high] theorem bi_asc {l : List Int} : biD .all [.list ((l.zip l.tail).map fun z => .bool (decide (z.1 < z.2)))] = some (.bool (ascI l)) := bi_all (p := fun z : Int × Int => decide (z.1 < z.2))
def goneB (ts : List Int) (ps : List (Int × Int)) (l : List Int) : PyData → Bool
  | .none => decide (l.length = min 2 ts.length)
  | .tuple [.int x, .int y] => decide (3 ≤ ts.length ∧ l.length = 3 ∧ 0 ≤ x ∧ x < y ∧ y < 7 ∧ x ∈ l ∧ y ∈ l ∧ (x, y) ∈ ps)
  | _ => false
def sir3 (ts : List Int) (ps : List (Int × Int)) (a b c : PyData) : Bool := match a, b with
  | .int p, .tuple tl => decide (0 ≤ p ∧ p < 7 ∧ p ∉ ts) && (match intsOf tl with
    | some l => (l.all fun i => inTs ts (.int i)) && (ascI l && goneB ts ps l c)
    | none => false)
  | _, _ => false
/-- is it a next step? -/
def sirB (ts : List Int) (ps : List (Int × Int)) : PyData → Bool
  | .tuple [a, b, c] => sir3 ts ps a b c
  | _ => false
theorem inTs_ints {ts : List Int} : ∀ {tl : List PyData}, tl.all (inTs ts) = true → ∃ l, tl = il l ∧ intsOf tl = some l ∧ (l.all fun i => inTs ts (.int i)) = true
  | [], _ => ⟨[], rfl, rfl, rfl⟩
  | x :: r, h => by
    simp only [List.all_cons, Bool.and_eq_true] at h
    obtain ⟨l, h1, h2, h3⟩ := inTs_ints h.2
    cases x with
    | int i => exact ⟨i :: l, by rw [h1]; rfl, by simp only [intsOf, h2]; rfl, by simp only [List.all_cons, h.1, h3, Bool.and_self]⟩
    | _ => exact absurd h.1 (by simp [inTs])
theorem inTs_none {ts : List Int} {tl : List PyData} (h : tl.all (inTs ts) = false) : (match intsOf tl with
    | some l => (l.all fun i => inTs ts (.int i)) && (ascI l && goneB ts [] l .none)
    | none => false) = false ∧ ∀ ps c, (match intsOf tl with
    | some l => (l.all fun i => inTs ts (.int i)) && (ascI l && goneB ts ps l c)
    | none => false) = false := by
  have key : ∀ {l}, intsOf tl = some l → (l.all fun i => inTs ts (.int i)) = false := fun {l} e => by
    rw [intsOf_some e] at h
    simpa [List.all_map] using h
  cases e : intsOf tl with
  | none => exact ⟨rfl, fun _ _ => rfl⟩
  | some l => simp only [key e]; exact ⟨rfl, fun _ _ => rfl⟩
theorem sir3_bad {ts : List Int} {ps : List (Int × Int)} {p : Int} {b c : PyData} (h : ¬ (0 ≤ p ∧ p < 7 ∧ p ∉ ts)) : sir3 ts ps (.int p) b c = false := by
  cases b <;> simp only [sir3, decide_eq_false h, Bool.false_and]
theorem sir3_good {ts : List Int} {ps : List (Int × Int)} {p : Int} {l : List Int} {c : PyData} (h : 0 ≤ p ∧ p < 7 ∧ p ∉ ts) (h3 : (l.all fun i => inTs ts (.int i)) = true) : sir3 ts ps (.int p) (.tuple (il l)) c = (ascI l && goneB ts ps l c) := by
  simp only [sir3, decide_eq_true h, intsOf_il, h3, Bool.true_and]
@[simp] theorem isN_n : isNoneD .none = true := rfl
@[simp] theorem isN_i {i : Int} : isNoneD (.int i) = false := rfl
@[simp] theorem isN_b {i : Bool} : isNoneD (.bool i) = false := rfl
@[simp] theorem isN_s {i : Str} : isNoneD (.str i) = false := rfl
@[simp] theorem isN_l {i : List PyData} : isNoneD (.list i) = false := rfl
@[simp] theorem isN_t {i : List PyData} : isNoneD (.tuple i) = false := rfl
@[simp] theorem isN_p {i : Int × Int} : isNoneD (pt i) = false := rfl
theorem isPair_inv {m : Int} {d : PyData} (h : isPair m d = true) : ∃ p : Int × Int, d = pt p ∧ 0 ≤ p.1 ∧ p.1 < p.2 ∧ p.2 < m := by
  unfold isPair at h
  split at h
  · rename_i i j
    have := of_decide_eq_true h
    exact ⟨(i, j), rfl, by simpa using this.1, by simpa using this.2.2.2.2, by simpa using this.2.2.2.1⟩
  · cases h
theorem isPair_pt' {m : Int} {p : Int × Int} : isPair m (pt p) = decide (0 ≤ p.1 ∧ p.1 < p.2 ∧ p.2 < m) := by
  simp only [pt, isPair]
  congr 1
  simp only [eq_iff_iff]
  omega
theorem goneB_none {ts : List Int} {ps : List (Int × Int)} {l : List Int} : goneB ts ps l .none = decide (l.length = min 2 ts.length) := rfl
theorem goneB_pt {ts : List Int} {ps : List (Int × Int)} {l : List Int} {p : Int × Int} : goneB ts ps l (pt p) = decide (3 ≤ ts.length ∧ l.length = 3 ∧ 0 ≤ p.1 ∧ p.1 < p.2 ∧ p.2 < 7 ∧ p.1 ∈ l ∧ p.2 ∈ l ∧ p ∈ ps) := rfl
theorem goneB_not {ts : List Int} {ps : List (Int × Int)} {l : List Int} {c : PyData} (h1 : isNoneD c = false) (h2 : isPair 7 c = false) : goneB ts ps l c = false := by
  unfold goneB
  split
  · cases h1
  · rename_i x y
    have : ¬ (0 ≤ x ∧ x < 7 ∧ 0 ≤ y ∧ y < 7 ∧ x < y) := of_decide_eq_false h2
    simp only [decide_eq_false_iff_not]
    omega
  · rfl
theorem asc3 {a b c : Int} (h : ascI [a, b, c] = true) : a < b ∧ b < c := by
  simpa [ascI] using h
theorem in3 {a b c : Int} {p : Int × Int} (h : a < b ∧ b < c) (h2 : p.1 < p.2) : p ∈ [(a, b), (a, c), (b, c)] ↔ p.1 ∈ [a, b, c] ∧ p.2 ∈ [a, b, c] := by
  obtain ⟨x, y⟩ := p
  simp at h2 ⊢
  omega
theorem e_step (ts : List Int) (ps : List (Int × Int)) (v : PyData) (st : Pot) : F6.sem [.d (.list (il ts)), .d (.tuple (pl ps)), .d v] st = .ok (.d (.bool (sirB ts ps v))) st := by
  rw [s_F6]
  cases v <;> simp [run_eq, b_step_is_right, sirB]
  rename_i xs
  split
  · rename_i h
    match xs, h with
    | [a, b, c], _ =>
      simp [isPot, idxD, atD, L2.ixN, callF, cts]
      cases a <;> simp [isPos, sir3]
      rename_i p _
      by_cases hp : 0 ≤ p ∧ p < 7 ∧ p ∉ ts
      · obtain ⟨hp0, hp7, hpt⟩ := hp
        have h7 : ¬ (7 ≤ p) := by omega
        by_cases hb : isTd b = true
        · cases b <;> first | (cases hb; done) | skip
          rename_i tl _
          simp [isPot, idxD, atD, L2.ixN, hp0, hp7, hpt, h7]
          rw [lc_all (xs := tl) (k := false) (g := fun x => .bool (inTs ts x)) (by simp [isPot, idxD, atD, L2.ixN]) (fun x hx => by
            cases x <;> simp [lcTurn, bindT, blkS, wipeS, dropF, callF, cts, isPos, inTs]
            split
            · simp [*]
            · simp; omega)]
          by_cases hall : tl.all (inTs ts) = true
          · simp [hall, -List.all_eq_true]
            obtain ⟨l, rfl, h2, h3⟩ := inTs_ints hall
            rw [lc_map (zs := l.zip (l.drop 1)) (f := fun z => .tuple [.int z.1, .int z.2]) (k := false) (fun z => .bool (decide (z.1 < z.2))) (by simp [isPot, idxD, atD, L2.ixN, ← zipD_map]) (by
              intro z hz
              simp [lcTurn, bindT, blkS, wipeS, dropF])]
            rw [h2]
            simp only [h3, Bool.true_and]
            by_cases has : ascI l = true
            · simp only [has, Bool.true_and]
              simp [has, isPot, idxD, atD, L2.ixN, cts, callF]
              cases hn : isNoneD c with
              | true =>
                have hc : c = .none := by cases c <;> first | rfl | cases hn
                subst hc
                simp [goneB_none]
                have hm : min 2 ts.length = if ts.length < 2 then ts.length else 2 := by
                  rw [Nat.min_def]; split <;> split <;> omega
                rw [hm]
                split <;> split <;> omega
              | false =>
                by_cases h3t : (ts.length : Int) < 3
                · have hg : goneB ts ps l c = false := by
                    cases hpr : isPair 7 c with
                    | false => exact goneB_not hn hpr
                    | true =>
                      obtain ⟨q, rfl, hq⟩ := isPair_inv hpr
                      rw [goneB_pt, decide_eq_false_iff_not]
                      omega
                  simp [h3t, hg]
                · cases hpr : isPair 7 c with
                  | false =>
                    simp [h3t, goneB_not hn hpr]
                  | true =>
                    obtain ⟨q, rfl, hq⟩ := isPair_inv hpr
                    have h3t' : 3 ≤ ts.length := by omega
                    by_cases hl3 : l.length = 3
                    · match l, has, hl3 with
                      | [x, y, z], has, _ =>
                        have h4 := in3 (asc3 has) hq.2.1
                        have h5 : F5.sem [.d (.tuple (il [x, y, z]))] st = .ok (.d (.list (pl [(x, y), (x, z), (y, z)]))) st := e_among3 x y z st
                        simp only [h5]
                        have h6 : (inD (pt q) (.list (pl [(x, y), (x, z), (y, z)]))) = some (decide (q.1 ∈ [x, y, z] ∧ q.2 ∈ [x, y, z])) := by
                          rw [inD_pl]
                          congr 1
                          exact decide_eq_decide.mpr h4
                        simp only [goneB_pt]
                        by_cases hm : q.1 ∈ [x, y, z] ∧ q.2 ∈ [x, y, z]
                        · rw [decide_eq_true hm] at h6
                          have h6' : inD (pt q) (.list [pt (x, y), pt (x, z), pt (y, z)]) = some true := h6
                          simp [h3t, h3t', hq, hm, h6']
                        · have : ¬ (3 ≤ ts.length ∧ [x, y, z].length = 3 ∧ 0 ≤ q.1 ∧ q.1 < q.2 ∧ q.2 < 7 ∧ q.1 ∈ [x, y, z] ∧ q.2 ∈ [x, y, z] ∧ q ∈ ps) := fun h => hm ⟨h.2.2.2.2.2.1, h.2.2.2.2.2.2.1⟩
                          rw [decide_eq_false hm] at h6
                          have h6' : inD (pt q) (.list [pt (x, y), pt (x, z), pt (y, z)]) = some false := h6
                          simp only [decide_eq_false this]
                          simp [h3t, h6']
                    · have hl3' : ¬ (l.length : Int) = 3 := by omega
                      have hg : goneB ts ps l (pt q) = false := by
                        rw [goneB_pt, decide_eq_false_iff_not]
                        omega
                      simp [h3t, hl3', hg]
            · have has : ascI l = false := by simpa using has
              simp [has]
          · have hall : tl.all (inTs ts) = false := by simpa using hall
            have := (inTs_none hall).2 ps c
            simp [hall]
            exact this
        · cases b <;> first | (exact absurd rfl hb; done) | simp [isPot, idxD, atD, L2.ixN, hp0, hp7, hpt, h7]
      · by_cases hq : 0 ≤ p → 7 ≤ p
        · rw [if_pos hq]
          have hd : (decide (0 ≤ p) && (decide (p < 7) && !decide (p ∈ ts))) = false := by
            by_cases h0 : 0 ≤ p
            · have := hq h0
              have h7 : ¬ p < 7 := by omega
              simp [h7]
            · simp [h0]
          cases b <;> simp [hd]
        · have hpt : p ∈ ts := by
            by_cases h3 : p ∈ ts
            · exact h3
            · exact absurd ⟨by omega, by omega, h3⟩ hp
          rw [if_neg hq, if_pos hpt]
          cases b <;> simp [hpt]
  · rename_i h
    match xs, h with
    | [], _ => simp
    | [a], _ => simp
    | [a, b], _ => simp
    | a :: b :: c :: d :: r, _ => simp
end PyD
namespace PyD
open PySem PySem.Spec PyProof.Rows L2
abbrev Step := Int × List Int × Option (Int × Int)
def goneD : Option (Int × Int) → PyData
  | none => .none
  | some q => pt q
@[simp] def stD (s : Step) : PyData := .tuple [.int s.1, .tuple (il s.2.1), goneD s.2.2]
def goneOf : PyData → Option (Option (Int × Int))
  | .none => some none
  | .tuple [.int x, .int y] => some (some (x, y))
  | _ => none
def stepOf : PyData → Option Step
  | .tuple [.int p, .tuple tl, c] => match intsOf tl, goneOf c with
    | some l, some g => some (p, l, g)
    | _, _ => none
  | _ => none
@[simp] theorem goneOf_D (g : Option (Int × Int)) : goneOf (goneD g) = some g := by cases g <;> rfl
@[simp] theorem stepOf_D (s : Step) : stepOf (stD s) = some s := by
  simp only [stD, stepOf, intsOf_il, goneOf_D]
theorem goneB_inv {ts : List Int} {ps : List (Int × Int)} {l : List Int} {c : PyData} (h : goneB ts ps l c = true) : ∃ g, c = goneD g ∧ l.length ≤ 3 := by
  unfold goneB at h
  split at h
  · exact ⟨none, rfl, by have := of_decide_eq_true h; omega⟩
  · rename_i x y
    exact ⟨some (x, y), rfl, by have := of_decide_eq_true h; omega⟩
  · cases h
theorem sirB_inv {ts : List Int} {ps : List (Int × Int)} {v : PyData} (h : sirB ts ps v = true) : ∃ s, v = stD s ∧ s.2.1.length ≤ 3 := by
  unfold sirB at h
  split at h
  · rename_i a b c
    unfold sir3 at h
    split at h
    · rename_i p tl
      simp only [Bool.and_eq_true] at h
      obtain ⟨_, h⟩ := h
      split at h
      · rename_i l hl
        simp only [Bool.and_eq_true] at h
        obtain ⟨g, h1, h2⟩ := goneB_inv h.2.2
        exact ⟨(p, l, g), by rw [intsOf_some hl, h1]; rfl, h2⟩
      · cases h
    · cases h
  · cases h
def newP (p : Int) (l : List Int) : List (Int × Int) := l.map fun t => (min t p, max t p)
def keepP (g : Option (Int × Int)) (ps : List (Int × Int)) : List (Int × Int) := ps.filter fun q => !decide (some q = g)
theorem shp_gone (g : Option (Int × Int)) : shp (goneD g) = true := by cases g <;> rfl
theorem eqv_gone (q : Int × Int) (g : Option (Int × Int)) : PyData.eqv (pt q) (goneD g) = decide (some q = g) := by
  cases g with
  | none => rfl
  | some g => simp [goneD]
theorem keepP_len (g : Option (Int × Int)) (ps : List (Int × Int)) : (keepP g ps).length ≤ ps.length := List.length_filter_le ..
theorem mm_pt (t p : Int) : PyData.tuple [.int (if t < p then t else p), .int (if p < t then t else p)] = pt (min t p, max t p) := by
  have h1 : (if t < p then t else p) = min t p := by rw [Int.min_def]; split <;> split <;> omega
  have h2 : (if p < t then t else p) = max t p := by rw [Int.max_def]; split <;> split <;> omega
  rw [h1, h2]; rfl
@[simp] theorem e_behind (ps : List (Int × Int)) (s : Step) (st : Pot) (h : ps.length + s.2.1.length ≤ sz) : F7.sem [.d (.tuple (pl ps)), .d (stD s)] st = .ok (.d (.tuple (pl (sortP (keepP s.2.2 ps ++ newP s.1 s.2.1))))) st := by
  rw [s_F7]
  simp [run_eq, b_behind_step]
  rw [lc_fil (zs := ps) (f := pt) (k := false) (fun q => !decide (some q = s.2.2)) pt (by simp) (by
    intro z hz
    simp [lcTurn, bindT, blkS, wipeS, dropF, isPot, idxD, atD, L2.ixN, shp_gone, eqv_gone]
    split <;> rfl)]
  simp
  rw [lc_map (zs := s.2.1) (f := .int) (k := false) (fun t => pt (min t s.1, max t s.1)) (by simp [isPot, idxD, atD, L2.ixN]) (by
    intro z hz
    simp [lcTurn, bindT, blkS, wipeS, dropF, isPot, idxD, atD, L2.ixN, mm_pt])]
  have h1 : ((keepP s.2.2 ps).map pt) ++ ((newP s.1 s.2.1).map pt) = pl (keepP s.2.2 ps ++ newP s.1 s.2.1) := by simp
  have h2 : (keepP s.2.2 ps).length + s.2.1.length ≤ sz := by have := keepP_len s.2.2 ps; omega
  have h3 : s.2.1.map (fun t => pt (min t s.1, max t s.1)) = pl (newP s.1 s.2.1) := by simp [newP]
  have h4 : (ps.filter fun q => !decide (some q = s.2.2)) = keepP s.2.2 ps := rfl
  have h5 : (newP s.1 s.2.1).length = s.2.1.length := by simp [newP]
  rw [h3, h4]
  simp only [bindD_ok, bin_addL, List.length_map, h5, h2, if_true, h1]
  simp [sortD_pl, -List.map_append]
abbrev loopB : Sms := .cons (.ife (.or (.not (.val (.call 6 (.cons (.var 2) (.cons (.var 3) (.cons (.var 4) .nil)))))) (.val (.cmp .ge (.idx (.var 4) (.cst (.int 0))) (.var 0)))) (.cons (.ret (.so (.cst .none)))
  .nil) .nil)
  (.cons (.app 2 (.idx (.var 4) (.cst (.int 0))))
  (.cons (.asg (.nm 3) (.call 7 (.cons (.var 3) (.cons (.var 4) .nil))))
  .nil))
abbrev keepB : Sms := .cons (.ret (.so (.var 3))) .nil
def okStep (m : Int) (ts : List Int) (ps : List (Int × Int)) (v : PyData) : Option Step := if sirB ts ps v then (stepOf v).bind fun s => if s.1 < m then some s else none else none
def foldB (m : Int) : List PyData → List Int → List (Int × Int) → Option (List (Int × Int))
  | [], _, ps => some ps
  | v :: r, ts, ps => (okStep m ts ps v).bind fun s => foldB m r (ts ++ [s.1]) (keepP s.2.2 ps ++ newP s.1 s.2.1)
def optD : Option (List (Int × Int)) → PyData
  | none => .none
  | some ps => .tuple (pl (sortP ps))
theorem goneB_sort {ts : List Int} {ps qs : List (Int × Int)} {l : List Int} {c : PyData} (h : ∀ p, p ∈ ps ↔ p ∈ qs) : goneB ts ps l c = goneB ts qs l c := by
  unfold goneB
  split
  · rfl
  · simp only [h]
  · rfl
theorem sirB_sort {ts : List Int} {ps qs : List (Int × Int)} {v : PyData} (h : ∀ p, p ∈ ps ↔ p ∈ qs) : sirB ts ps v = sirB ts qs v := by
  unfold sirB
  split
  · unfold sir3
    split
    · split
      · rw [goneB_sort h]
      · rfl
    · rfl
  · rfl
@[simp] theorem seqOf_l {xs : List PyData} : seqOf (.list xs) = some xs := rfl
@[simp] theorem seqOf_t {xs : List PyData} : seqOf (.tuple xs) = some xs := rfl
@[simp] theorem seqOf_b {b : Bool} : seqOf (.bool b) = none := rfl
@[simp] theorem seqOf_i {b : Int} : seqOf (.int b) = none := rfl
@[simp] theorem seqOf_s {b : Str} : seqOf (.str b) = none := rfl
@[simp] theorem seqOf_n : seqOf .none = none := rfl
@[simp] theorem seqOf_d {b : List (PyData × PyData)} : seqOf (.dict b) = none := rfl
theorem e_loop (m : Int) (a : PyData) (st : Pot) : ∀ (xs : List PyData) (ts : List Int) (ps : List (Int × Int)) (sl : Sl), ts.length + xs.length ≤ 7 → ps.length ≤ 3 * ts.length → exsK G8 keepB (forGo (forTurn G8 (.nm 4) loopB) xs [.v (.d (.int m)), .v (.d a), .own (il ts), .v (.d (.tuple (pl (sortP ps)))), sl] st) = .ok (.ret (.d (optD (foldB m xs ts ps)))) st
  | [], ts, ps, sl, _, _ => by
    simp [optD, foldB]
  | x :: r, ts, ps, sl, h1, h2 => by
    have hs : sirB ts (sortP ps) x = sirB ts ps x := sirB_sort fun p => mem_sortP
    have h1' : ts.length + 1 + r.length ≤ 7 := by simp at h1; omega
    cases hb : sirB ts ps x with
    | false =>
      simp [forTurn, bindT, loopB, callF, e_step, hs, hb, foldB, okStep, optD]
    | true =>
      obtain ⟨s, rfl, hl⟩ := sirB_inv hb
      have hz : ts.length < sz := by show ts.length < 16777216; omega
      have hp : (sortP ps).length = ps.length := (sortP_perm ps).length_eq
      have hz2 : (sortP ps).length + s.2.1.length ≤ sz := by show _ ≤ 16777216; omega
      have ha : il ts ++ [.int s.1] = il (ts ++ [s.1]) := by simp
      have hq : sortP (keepP s.2.2 (sortP ps) ++ newP s.1 s.2.1) = sortP (keepP s.2.2 ps ++ newP s.1 s.2.1) := sortP_eq (((sortP_perm ps).filter _).append_right _)
      have hk := keepP_len s.2.2 ps
      have hn : (newP s.1 s.2.1).length = s.2.1.length := by simp [newP]
      have ih := e_loop m a st r (ts ++ [s.1]) (keepP s.2.2 ps ++ newP s.1 s.2.1) (.v (.d (stD s))) (by simp; omega) (by simp; omega)
      have hsir := e_step ts (sortP ps) (stD s) st
      have hbeh := e_behind (sortP ps) s st hz2
      rw [hs, hb] at hsir
      rw [hq] at hbeh
      by_cases hm : s.1 < m
      · have hm2 : ¬ m ≤ s.1 := by omega
        have hok : okStep m ts ps (stD s) = some s := by simp only [okStep, hb, if_true, stepOf_D, Option.bind_some, hm]
        have hf : foldB m (stD s :: r) ts ps = foldB m r (ts ++ [s.1]) (keepP s.2.2 ps ++ newP s.1 s.2.1) := by rw [foldB, hok]; rfl
        rw [hf, ← ih]
        simp only [stD] at hsir hbeh ⊢
        simp [forTurn, bindT, loopB, callF, hsir, hbeh, hm2, isPot, idxD, atD, L2.ixN, ex_app, hz, cts, -List.map_append]
        rw [ha]
      · have hm2 : m ≤ s.1 := by omega
        have hok : okStep m ts ps (stD s) = none := by simp only [okStep, hb, if_true, stepOf_D, Option.bind_some, hm, if_false]
        have hf : foldB m (stD s :: r) ts ps = none := by rw [foldB, hok]; rfl
        rw [hf]
        simp only [stD] at hsir hbeh ⊢
        simp [forTurn, bindT, loopB, callF, hsir, hm2, isPot, idxD, atD, L2.ixN, optD, cts]
def built (m : Int) (v : PyData) : Option (List (Int × Int)) := (seqOf v).bind fun xs => if (xs.length : Int) = m then foldB m xs [] [] else none
@[simp] theorem sortP_nil : sortP [] = [] := by simp [sortP]
theorem e_built (m : Int) (hm : m ≤ 7) (v : PyData) (st : Pot) : F8.sem [.d (.int m), .d v] st = .ok (.d (optD (built m v))) st := by
  have key : ∀ a (xs : List PyData), (xs.length : Int) = m → _ := fun a (xs : List PyData) h => e_loop m a st xs [] [] .un (by simp; omega) (by simp)
  rw [s_F8]
  cases v <;> simp [run_eq, b_built_by, callF, built, optD]
  · rename_i xs
    split
    · rename_i h
      have := key (.list xs) _ h
      simp [sortP_nil] at this
      simp [parGo, this, optD]
    · rfl
  · rename_i xs
    split
    · rename_i h
      have := key (.tuple xs) _ h
      simp [sortP_nil] at this
      simp [parGo, this, optD]
    · rfl
end PyD
namespace PyD
open PySem PySem.Spec PyProof.Rows L2
@[simp] theorem e_check_many {m : Int} (h : 1 ≤ m ∧ m ≤ 7) (st : Pot) : F9.sem [.d (.int m)] st = .ok (.d .none) st := by
  have h1 : ¬ m < 1 := by omega
  have h2 : ¬ 7 < m := by omega
  rw [s_F9]
  simp [run_eq, b_check_many, callF, isInt, h, h1, h2, cts]
theorem e_check_pairs {m : Int} (h : 1 ≤ m ∧ m ≤ 7) {ps : List (Int × Int)} (hp : RP m ps) (st : Pot) : F10.sem [.d (.int m), .d (.tuple (pl ps))] st = .ok (.d .none) st := by
  rw [s_F10]
  simp [run_eq, b_check_pairs, callF, h, e_pairs_are_right st hp]
theorem isN_opt (b : Option (List (Int × Int))) : isNoneD (optD b) = b.isNone := by cases b <;> rfl
theorem e_is_row {m : Int} (h : 1 ≤ m ∧ m ≤ 7) (v : PyData) (st : Pot) : F11.sem [.d (.int m), .d v] st = .ok (.d (.bool (built m v).isSome)) st := by
  rw [s_F11]
  simp [run_eq, b_is_row, callF, h, e_built m h.2, isN_opt]
theorem e_row_pairs {m : Int} (h : 1 ≤ m ∧ m ≤ 7) (v : PyData) (st : Pot) : F12.sem [.d (.int m), .d v] st = match built m v with
    | none => .exc 2 (some v) st
    | some ps => .ok (.d (optD (some ps))) st := by
  rw [s_F12]
  simp [run_eq, b_row_pairs, callF, h, e_built m h.2, isN_opt]
  cases built m v with
  | none => simp
  | some ps => simp
theorem shp_opt (b : Option (List (Int × Int))) : shp (optD b) = true := by cases b <;> simp [optD]
def eqB (m : Int) (ps : List (Int × Int)) (v : PyData) : Bool := PyData.eqv (optD (built m v)) (.tuple (pl ps))
theorem e_does_build {m : Int} (h : 1 ≤ m ∧ m ≤ 7) {ps : List (Int × Int)} (hp : RP m ps) (v : PyData) (st : Pot) : F13.sem [.d (.int m), .d (.tuple (pl ps)), .d v] st = .ok (.d (.bool (eqB m ps v))) st := by
  rw [s_F13]
  simp [run_eq, b_does_build, callF, h, e_check_pairs h hp, e_built m h.2, shp_opt, eqB]
/-! ### the draws -/
/-- what keeps of a pot -/
def PI (st : Pot) : Prop := 0 ≤ st.1 ∧ 0 ≤ st.2 ∧ st.2 < 2147483648
@[simp] theorem bi_divmod {a b : Int} : biD .divmod [.int a, .int b] = if 0 < b ∧ b.natAbs.log2 < 9000 then some (.tuple [.int (a / b), .int (a % b)]) else none := rfl
theorem fits_of {i : Int} (h : i.natAbs < 2 ^ 99999) : fits i = true := by
  unfold fits
  rw [decide_eq_true_eq]
  by_cases h0 : i.natAbs = 0
  · rw [h0]; decide
  · have := (Nat.log2_lt h0).mpr h
    omega
theorem small_log {b : Int} (h : b.natAbs < 2147483648) : b.natAbs.log2 < 9000 := by
  by_cases h0 : b.natAbs = 0
  · rw [h0]; decide
  · exact (Nat.log2_lt h0).mpr (Nat.lt_of_lt_of_le h (Nat.pow_le_pow_right (n := 2) (by decide) (show 31 ≤ 9000 by decide)))
theorem fits_small {b : Int} (h : b.natAbs < 2147483648) : fits b = true := fits_of (Nat.lt_of_lt_of_le h (Nat.pow_le_pow_right (n := 2) (by decide) (show 31 ≤ 99999 by decide)))
theorem e_draw {st : Pot} (hp : PI st) {n : Int} (hn : 0 < n ∧ n ≤ 1000) : ∃ r st', F15.sem [.pot, .d (.int n)] st = .ok (.d (.int r)) st' ∧ 0 ≤ r ∧ r < n ∧ PI st' := by
  obtain ⟨a, b⟩ := st
  obtain ⟨h1, h2, h3⟩ := hp
  simp only at h1 h2 h3
  have hf : ∀ x y : Int, 0 < y → 0 ≤ x.fmod y ∧ x.fmod y < y := fun x y h => by
    rw [Int.fmod_eq_emod_of_nonneg x (by omega)]
    exact ⟨Int.emod_nonneg _ (by omega), Int.emod_lt_of_pos _ h⟩
  by_cases ha : 0 < a
  · refine ⟨a % n, (a / n, b), ?_, Int.emod_nonneg _ (by omega), Int.emod_lt_of_pos _ (by omega), Int.ediv_nonneg h1 (by omega), h2, h3⟩
    rw [s_F15]
    have hl := small_log (b := n) (by omega)
    simp [run_eq, b__law_draw, isPot, ha, ex_potD, hn, hl]
  · have hc := hf (b * 32783 + 1955) 2147483587 (by decide)
    have hfb := fits_small (b := b) (by omega)
    have hfc := fits_small (b := (b * 32783 + 1955).fmod 2147483587) (by omega)
    have hfn := fits_small (b := 32783) (by decide)
    have hl13 := small_log (b := 13) (by decide)
    refine ⟨((((b * 32783 + 1955).fmod 2147483587 * (b * 32783 + 1955).fmod 2147483587).fmod 2147483549).fdiv 13).fmod n, (a, (b * 32783 + 1955).fmod 2147483587), ?_, (hf _ _ hn.1).1, (hf _ _ hn.1).2, h1, hc.1, by omega⟩
    · rw [s_F15]
      have hn0 : ¬ n = 0 := by omega
      simp [run_eq, b__law_draw, isPot, ha, ex_potS, hfb, hfn, hfc, hn0, -Int.reducePow]
      exact hl13
theorem at_nn {n : Nat} {i : Int} (h0 : 0 ≤ i) (h1 : i < n) : atD n i = some i.toNat := by
  show L2.ixN n i = _
  unfold L2.ixN
  split <;> first | rfl | (simp only [Bool.and_eq_true, decide_eq_true_eq] at *; omega) | skip
  all_goals trace_state
theorem idx_l {α : Type} {f : α → PyData} {l : List α} {i : Int} (h0 : 0 ≤ i) (h1 : i < l.length) : idxD (.list (l.map f)) (.int i) = some (f (l[i.toNat]'(by omega))) := by
  have h2 : i.toNat < l.length := by omega
  simp only [idxD, List.length_map, at_nn h0 h1, Option.bind_some, List.getElem?_map, List.getElem?_eq_getElem h2, Option.map_some]
theorem e_pick {α : Type} {f : α → PyData} {l : List α} (hl : 0 < l.length ∧ l.length ≤ 1000) {st : Pot} (hp : PI st) : ∃ x ∈ l, ∃ st', F16.sem [.pot, .d (.list (l.map f))] st = .ok (.d (f x)) st' ∧ PI st' := by
  obtain ⟨r, st', h1, h2, h3, h4⟩ := e_draw hp (n := l.length) (by omega)
  refine ⟨l[r.toNat]'(by omega), List.getElem_mem .., st', ?_, h4⟩
  rw [s_F16]
  simp [run_eq, b__law_pick, isPot, callF, h1, idx_l h2 h3]
abbrev mixB : Sms := .cons (.asg (.nm 5) (.call 15 (.cons (.var 0) (.cons (.bi .len (.cons (.var 2) .nil)) .nil))))
  (.cons (.app 3 (.idx (.var 2) (.var 5)))
  (.cons (.asg (.nm 2) (.bin .add (.slc (.var 2) .no (.so (.var 5))) (.slc (.var 2) (.so (.bin .add (.var 5) (.cst (.int 1)))) .no)))
  .nil))
theorem perm_mid {α : Type} {l : List α} {k : Nat} (h : k < l.length) : (l.take k ++ l.drop (k + 1) ++ [l[k]]).Perm l := by
  have : l = l.take k ++ l[k] :: l.drop (k + 1) := by simp
  conv => rhs; rw [this]
  rw [List.append_assoc]
  exact List.Perm.append_left _ (List.perm_append_comm (l₁ := l.drop (k + 1)) (l₂ := [l[k]]))
theorem e_mix_loop {α : Type} {f : α → PyData} (d : PyData) : ∀ (xs : List PyData) (l1 l2 : List α) (s4 s5 : Sl) (st : Pot), xs.length = l1.length → l1.length + l2.length ≤ 1000 → PI st → ∃ (l3 : List α) (st' : Pot), l3.Perm (l1 ++ l2) ∧ PI st' ∧ exsK G17 (.cons (.ret (.so (.var 3))) .nil) (forGo (forTurn G17 (.nm 4) mixB) xs [.v .pot, .v (.d d), .v (.d (.list (l1.map f))), .own (l2.map f), s4, s5] st) = .ok (.ret (.d (.list (l3.map f)))) st'
  | [], l1, l2, s4, s5, st, h1, h2, hp => by
    have : l1 = [] := List.eq_nil_of_length_eq_zero h1.symm
    subst this
    exact ⟨l2, st, List.Perm.refl _, hp, by simp⟩
  | x :: xs, l1, l2, s4, s5, st, h1, h2, hp => by
    have hl : 0 < l1.length := by rw [← h1]; simp
    obtain ⟨r, st1, e1, hr0, hr1, hp1⟩ := e_draw hp (n := l1.length) (by omega)
    have hrn : r.toNat < l1.length := by omega
    have hlen : (l1.take r.toNat ++ l1.drop (r.toNat + 1)).length = xs.length := by
      simp at h1 ⊢; omega
    obtain ⟨l3, st', h3, h4, h5⟩ := e_mix_loop d xs (l1.take r.toNat ++ l1.drop (r.toNat + 1)) (l2 ++ [l1[r.toNat]]) (.v (.d x)) (.v (.d (.int r))) st1 hlen.symm (by simp at h1 hlen ⊢; omega) hp1
    refine ⟨l3, st', h3.trans ?_, h4, ?_⟩
    · have := perm_mid hrn
      refine List.Perm.trans ?_ (this.append_right l2)
      rw [List.append_assoc, List.append_assoc, List.append_assoc]
      exact ((List.perm_append_comm).append_left _).append_left _
    · have hz : l2.length < sz := by show _ < 16777216; omega
      have hz2 : (min r.toNat l1.length) + (l1.length - (r + 1).toNat) ≤ sz := by show _ ≤ 16777216; omega
      have e2 : (r + 1).toNat = r.toNat + 1 := by omega
      have hr1' : 0 ≤ r + 1 := by omega
      rw [← h5]
      simp [forTurn, bindT, mixB, callF, e1, ex_app, hz, idx_l hr0 hr1, slcL_to hr0, slcL_from hr1', isPot]
      rw [if_pos hz2, e2]
theorem rgOk_mk {a b : Int} (h : -1000000 ≤ a ∧ a ≤ 1000000 ∧ -1000000 ≤ b ∧ b ≤ 1000000) : rgOk a b = true := by
  unfold rgOk
  simp only [Bool.and_eq_true, decide_eq_true_eq]
  omega
theorem rgR_to {n : Int} (st : Pot) (h : 0 ≤ n ∧ n ≤ 1000) : rgR none (some (.int n)) st = .ok (0, n) st := by
  show (if rgOk 0 n then _ else _) = _
  rw [if_pos (rgOk_mk (by omega))]
theorem rgR_ft {a n : Int} (st : Pot) (h : 0 ≤ a ∧ a ≤ 1000 ∧ 0 ≤ n ∧ n ≤ 1000) : rgR (some (.int a)) (some (.int n)) st = .ok (a, n) st := by
  show (if rgOk a n then _ else _) = _
  rw [if_pos (rgOk_mk (by omega))]
theorem rgD_len {a b : Int} : (rgD a b).length = (b - a).toNat := by simp [rgD]
/-- the numbers from a up to b -/
def rgI (a b : Int) : List Int := (List.range (b - a).toNat).map fun i => a + (i : Nat)
theorem rgD_il {a b : Int} : rgD a b = il (rgI a b) := by simp [rgD, rgI]
theorem mem_rgI {a b x : Int} : x ∈ rgI a b ↔ a ≤ x ∧ x < b := by
  simp only [rgI, List.mem_map, List.mem_range]
  constructor
  · rintro ⟨i, h, rfl⟩; omega
  · intro h; exact ⟨(x - a).toNat, by omega, by omega⟩
theorem rgI_nodup {a b : Int} : (rgI a b).Nodup := by
  unfold rgI
  refine List.Pairwise.map _ ?_ List.nodup_range
  intro x y h e
  exact h (by omega)
theorem rgI_len {a b : Int} : (rgI a b).length = (b - a).toNat := by simp [rgI]
theorem e_mixed {α : Type} {f : α → PyData} {l : List α} (hl : l.length ≤ 1000) {st : Pot} (hp : PI st) : ∃ (l' : List α) (st' : Pot), l'.Perm l ∧ PI st' ∧ F17.sem [.pot, .d (.list (l.map f))] st = .ok (.d (.list (l'.map f))) st' := by
  obtain ⟨l3, st', h1, h2, h3⟩ := e_mix_loop (f := f) (.list (l.map f)) (rgD 0 l.length) l [] .un .un st (by rw [rgD_len]; omega) (by simp; omega) hp
  refine ⟨l3, st', by simpa using h1, h2, ?_⟩
  rw [s_F17]
  simp at h3
  simp [run_eq, b__law_mixed, callF, parGo, rgR_to st (n := l.length) (by omega), h3]
theorem shp_str {x : Str} (h : Ch x) : shp (.str x) = true := by
  refine shp_of ?_ (Nat.zero_le _)
  show PyData.strOk x = true
  unfold PyData.strOk
  rw [Array.all_eq_true']
  intro c hc
  have := h c (by simpa using hc)
  simp only [decide_eq_true_eq]
  omega
theorem e_same {a : PyData} {n : Nat} (ha : rp n a) (hn : n ≤ 60) (sa : shw a ≤ sz) (st : Pot) : F18.sem [.d a, .d a] st = .ok (.d (.bool true)) st := by
  have h1 := bi_repr ha hn sa
  have h3 := shp_str (ch_shown ha.1)
  have h4 : PyData.eqv (.str a.shown) (.str a.shown) = true := by simp [PyData.eqv]
  rw [s_F18]
  simp [run_eq, b__law_same, h1, h3, h4]
@[simp] theorem e_whole (d : PyData) (st : Pot) : F19.sem [.d d] st = .ok (.d (.bool (isInt d))) st := by
  cases d <;> rfl
def allP (m : Int) : List (Int × Int) := (rgI 0 m).flatMap fun a => (rgI (a + 1) m).map fun b => (a, b)
theorem e_all_pairs {m : Int} (h : 1 ≤ m ∧ m ≤ 6) (st : Pot) : F20.sem [.d (.int m)] st = .ok (.d (.list (pl (allP m)))) st := by
  rw [s_F20]
  have : m = 1 ∨ m = 2 ∨ m = 3 ∨ m = 4 ∨ m = 5 ∨ m = 6 := by omega
  rcases this with rfl | rfl | rfl | rfl | rfl | rfl
  · kernel_rfl
  · kernel_rfl
  · kernel_rfl
  · kernel_rfl
  · kernel_rfl
  · kernel_rfl
theorem allP_RP {m : Int} (h : 1 ≤ m ∧ m ≤ 6) : RP m (allP m) := by
  have : m = 1 ∨ m = 2 ∨ m = 3 ∨ m = 4 ∨ m = 5 ∨ m = 6 := by omega
  unfold RP
  rcases this with rfl | rfl | rfl | rfl | rfl | rfl <;> decide
theorem RP_sub {m : Int} {ps qs : List (Int × Int)} (h : RP m ps) (hs : qs.Sublist ps) : RP m qs := ⟨fun p hp => h.1 p (hs.subset hp), h.2.sublist hs⟩
/-- a comprehension whose test draws -/
theorem compGo_draw {α : Type} {turn : PyData → Pot → Res (Option PyData)} {f : α → PyData} : ∀ (l : List α) (acc : List PyData) (st : Pot), PI st → (∀ x ∈ l, ∀ st, PI st → ∃ (k : Bool) (st' : Pot), PI st' ∧ turn (f x) st = .ok (if k then some (f x) else none) st') → ∃ (l' : List α) (st' : Pot), l'.Sublist l ∧ PI st' ∧ compGo turn (l.map f) acc st = .ok (acc ++ l'.map f) st'
  | [], acc, st, hp, _ => ⟨[], st, List.Sublist.refl _, hp, by simp [compGo]⟩
  | x :: r, acc, st, hp, h => by
    obtain ⟨k, st1, hp1, e1⟩ := h x (List.mem_cons_self ..) st hp
    cases k with
    | true =>
      obtain ⟨l', st', h1, h2, h3⟩ := compGo_draw r (acc ++ [f x]) st1 hp1 fun y hy => h y (List.mem_cons_of_mem _ hy)
      exact ⟨x :: l', st', h1.cons_cons x, h2, by simp [compGo, e1, h3]⟩
    | false =>
      obtain ⟨l', st', h1, h2, h3⟩ := compGo_draw r acc st1 hp1 fun y hy => h y (List.mem_cons_of_mem _ hy)
      exact ⟨l', st', h1.cons x, h2, by simp [compGo, e1, h3]⟩
theorem e_some_pairs {m : Int} (h : 1 ≤ m ∧ m ≤ 6) {st : Pot} (hp : PI st) : ∃ (ps : List (Int × Int)) (st' : Pot), RP m ps ∧ PI st' ∧ F21.sem [.pot, .d (.int m)] st = .ok (.d (.tuple (pl ps))) st' := by
  obtain ⟨r, st1, e1, hr0, hr1, hp1⟩ := e_draw hp (n := 4) (by omega)
  obtain ⟨l', st', h1, h2, h3⟩ := compGo_draw (f := pt) (turn := lcTurn G21 [.v .pot, .v (.d (.int m)), .v (.d (.int (1 + r))), .un] (.nm 3) (.so (.val (.cmp .lt (.call 15 (.cons (.var 0) (.cons (.cst (.int 4)) .nil))) (.var 2)))) (.var 3) [("pair", 3)]) (allP m) [] st1 hp1 (by
    intro x hx s hs
    obtain ⟨q, s', e2, hq0, hq1, hp2⟩ := e_draw hs (n := 4) (by omega)
    refine ⟨decide (q < 1 + r), s', hp2, ?_⟩
    simp [lcTurn, bindT, blkS, wipeS, dropF, callF, e2]
    split <;> rfl)
  refine ⟨l', st', RP_sub (allP_RP h) h1, h2, ?_⟩
  rw [s_F21]
  simp [run_eq, b__law_some_pairs, callF, e1, ev_lc, e_all_pairs h]
  rw [h3]
  simp
@[simp] theorem e_pair (a b : Int) (st : Pot) : F22.sem [.d (.int a), .d (.int b)] st = .ok (.d (pt (min a b, max a b))) st := by
  rw [s_F22]
  simp [run_eq, b__law_pair]
  have h1 : (if b < a then b else a) = min a b := by rw [Int.min_def]; split <;> split <;> omega
  have h2 : (if a < b then b else a) = max a b := by rw [Int.max_def]; split <;> split <;> omega
  rw [h1, h2]; rfl
end PyD
namespace PyD
open PySem PySem.Spec PyProof.Rows L2
theorem ascI_iff {l : List Int} : ascI l = true ↔ l.Pairwise (· < ·) := by
  induction l with
  | nil => simp [ascI]
  | cons a r ih =>
    cases r with
    | nil => simp [ascI]
    | cons b r =>
      have h : ascI (a :: b :: r) = (decide (a < b) && ascI (b :: r)) := rfl
      rw [h, Bool.and_eq_true, ih, decide_eq_true_eq]
      constructor
      · rintro ⟨h1, h2⟩
        refine List.pairwise_cons.mpr ⟨?_, h2⟩
        intro c hc
        rcases List.mem_cons.mp hc with e | hc
        · omega
        · have := (List.pairwise_cons.mp h2).1 c hc
          omega
      · intro h1
        exact ⟨(List.pairwise_cons.mp h1).1 b (List.mem_cons_self ..), (List.pairwise_cons.mp h1).2⟩
theorem sset_asc : ∀ {l : List Int}, l.Pairwise (· < ·) → sset l = l
  | [], _ => rfl
  | x :: r, h => by
    rw [sset, sset_asc (List.pairwise_cons.mp h).2]
    cases r with
    | nil => rfl
    | cons y r =>
      have := (List.pairwise_cons.mp h).1 y (List.mem_cons_self ..)
      rw [insU, if_pos this]
theorem sset_eq {l : List Int} : (l = sset l) ↔ ascI l = true := by
  rw [ascI_iff]
  exact ⟨fun h => by rw [h]; exact sset_sorted l, fun h => (sset_asc h).symm⟩
theorem nums_il : ∀ l : List Int, nums (il l) = some l
  | [] => rfl
  | a :: r => by
    show (nums (il r)).map (a :: ·) = _
    rw [nums_il r]; rfl
theorem eqvAll_il : ∀ a b : List Int, PyData.eqvAll (il a) (il b) = decide (a = b)
  | [], [] => rfl
  | [], _ :: _ => by simp [PyData.eqvAll]
  | _ :: _, [] => by simp [PyData.eqvAll]
  | x :: a, y :: b => by
    simp only [List.map_cons, PyData.eqvAll, eqv_int, eqvAll_il a b]
    by_cases h1 : x = y <;> by_cases h2 : a = b <;> simp [h1, h2]
theorem eqv_ll (a b : List Int) : PyData.eqv (.list (il a)) (.list (il b)) = decide (a = b) := by
  simp only [PyData.eqv, eqvAll_il]
theorem bi_sset {l : List Int} (h : l.length < 64) : biD .sortedSet [.tuple (il l)] = some (.list (il (sset l))) := by
  show ((nums (il l)).bind fun ns => if ns.length < 64 then some (PyData.list ((sset ns).map .int)) else none) = _
  rw [nums_il, Option.bind_some, if_pos h]
/-- is it an int of the list? -/
def inW (ts : List Int) : PyData → Bool
  | .int i => decide (i ∈ ts)
  | _ => false
theorem inW_ints {ts : List Int} : ∀ {tl : List PyData}, tl.all (inW ts) = true → ∃ l, tl = il l ∧ ∀ t ∈ l, t ∈ ts
  | [], _ => ⟨[], rfl, by simp⟩
  | x :: r, h => by
    simp only [List.all_cons, Bool.and_eq_true] at h
    obtain ⟨l, h1, h2⟩ := inW_ints h.2
    cases x with
    | int i =>
      refine ⟨i :: l, by rw [h1]; rfl, ?_⟩
      intro t ht
      rcases List.mem_cons.mp ht with e | ht
      · rw [e]; simpa [inW] using h.1
      · exact h2 t ht
    | _ => exact absurd h.1 (by simp [inW])
def lgone (ts : List Int) (ps : List (Int × Int)) (l : List Int) : PyData → Bool
  | .none => decide (l.length = min ts.length 2)
  | .tuple [.int x, .int y] => decide (3 ≤ ts.length ∧ l.length = 3 ∧ x ∈ l ∧ y ∈ l ∧ (x, y) ∈ ps)
  | _ => false
abbrev lbTurn : Sms := (.cons (.ife (.or (.not (.val (.bi .isT (.cons (.var 5) .nil)))) (.or (.val (.cmp .ne (.bi .len (.cons (.var 5) .nil)) (.cst (.int 3)))) (.or (.not (.val (.call 19 (.cons (.idx (.var 5) (.cst (.int 0))) .nil)))) (.or (.not (.val (.cmp2 .le .lt (.cst (.int 0)) (.idx (.var 5) (.cst (.int 0))) (.var 0)))) (.or (.val (.cmp .isin (.idx (.var 5) (.cst (.int 0))) (.var 2))) (.not (.val (.bi .isT (.cons (.idx (.var 5) (.cst (.int 1))) .nil))))))))) (.cons (.ret (.so (.cst .none)))
  .nil) .nil)
  (.cons (.asg (.tup [6, 7, 8]) (.var 5))
  (.cons (.ife (.or (.not (.val (.bi .all (.cons (.lc (.nm 9) (.seq (.var 7)) .no (.and (.call 19 (.cons (.var 9) .nil)) (.cmp .isin (.var 9) (.var 2))) [("one", 9)]) .nil)))) (.val (.cmp .ne (.bi .list (.cons (.var 7) .nil)) (.bi .sortedSet (.cons (.var 7) .nil))))) (.cons (.ret (.so (.cst .none)))
  .nil) .nil)
  (.cons (.ife (.val (.isN (.var 8))) (.cons (.ife (.val (.cmp .ne (.bi .len (.cons (.var 7) .nil)) (.bi .min2 (.cons (.var 4) (.cons (.cst (.int 2)) .nil))))) (.cons (.ret (.so (.cst .none)))
  .nil) .nil)
  .nil) (.cons (.ife (.or (.val (.cmp .lt (.var 4) (.cst (.int 3)))) (.or (.val (.cmp .ne (.bi .len (.cons (.var 7) .nil)) (.cst (.int 3)))) (.or (.not (.val (.bi .isT (.cons (.var 8) .nil)))) (.or (.val (.cmp .ne (.bi .len (.cons (.var 8) .nil)) (.cst (.int 2)))) (.or (.not (.val (.bi .all (.cons (.lc (.nm 9) (.seq (.var 8)) .no (.and (.call 19 (.cons (.var 9) .nil)) (.cmp .isin (.var 9) (.var 7))) [("one", 9)]) .nil)))) (.val (.cmp .notin (.var 8) (.var 3)))))))) (.cons (.ret (.so (.cst .none)))
  .nil) .nil)
  (.cons (.asg (.nm 3) (.lc (.nm 10) (.seq (.var 3)) (.so (.val (.cmp .ne (.var 10) (.var 8)))) (.var 10) [("pair", 10)]))
  .nil)))
  (.cons (.asg (.nm 3) (.bin .add (.var 3) (.lc (.nm 9) (.seq (.var 7)) .no (.call 22 (.cons (.var 9) (.cons (.var 6) .nil))) [("one", 9)])))
  (.cons (.asg (.nm 2) (.bin .add (.var 2) (.lst (.cons (.var 6) .nil))))
  .nil))))))
abbrev lbEnd : Sms := (.cons (.ret (.so (.bi .tuple (.cons (.bi .sorted (.cons (.var 3) .nil)) .nil)))) .nil)
def dK (r : PyData) (m : Int) (a : PyData) (ts : List Int) (ps : List (Int × Int)) (s4 s5 s6 s7 s8 s9 s10 : Sl) : List Sl := [.v (.d (.int m)), .v (.d a), .v (.d (.list (il ts))), .v (.d (.list (pl ps))), s4, s5, s6, s7, s8, s9, s10]
/-- a step that the law takes, or none -/
def lokS (m : Int) (ts : List Int) (ps : List (Int × Int)) : PyData → Option Step
  | .tuple [.int p, .tuple tl, c] => if 0 ≤ p ∧ p < m ∧ p ∉ ts then (intsOf tl).bind fun l => if (∀ t ∈ l, t ∈ ts) ∧ ascI l = true ∧ lgone ts ps l c = true then (goneOf c).map fun g => (p, l, g) else none else none
  | _ => none
@[simp] theorem newP_len {p : Int} {l : List Int} : (newP p l).length = l.length := by simp [newP]
theorem lgone_pair {ts : List Int} {ps : List (Int × Int)} {l : List Int} {c : PyData} (hn : isNoneD c = false) (h : lgone ts ps l c = true) : 3 ≤ ts.length ∧ l.length = 3 ∧ ∃ q : Int × Int, c = pt q ∧ q.1 ∈ l ∧ q.2 ∈ l ∧ q ∈ ps := by
  unfold lgone at h
  split at h
  · cases hn
  · rename_i x y
    have h := of_decide_eq_true h
    exact ⟨h.1, h.2.1, (x, y), rfl, h.2.2.1, h.2.2.2.1, h.2.2.2.2⟩
  · cases h
theorem lb_turn {m : Int} {a : PyData} {ts : List Int} {ps : List (Int × Int)} {s4 s5 s6 s7 s8 s9 s10 : Sl} {x : PyData} {st : Pot} (hs : ∀ p tl c, x = .tuple [p, .tuple tl, c] → tl.length < 64) (hz1 : ts.length < 1000) (hz2 : ps.length < 1000) (hz3 : ∀ q ∈ ps, q.1 < q.2) : forTurn G23 (.tup [4, 5]) lbTurn (.tuple [.int ts.length, x]) [.v (.d (.int m)), .v (.d a), .v (.d (.list (il ts))), .v (.d (.list (pl ps))), s4, s5, s6, s7, s8, s9, s10] st = match lokS m ts ps x with
    | none => .ok (.ret (.d .none)) st
    | some s => .ok (.nx [.v (.d (.int m)), .v (.d a), .v (.d (.list (il (ts ++ [s.1])))), .v (.d (.list (pl (keepP s.2.2 ps ++ newP s.1 s.2.1)))), .v (.d (.int ts.length)), .v (.d x), .v (.d (.int s.1)), .v (.d (.tuple (il s.2.1))), .v (.d (goneD s.2.2)), s9, s10]) st := by
  cases x <;> first | (simp [forTurn, bindT, lbTurn, lokS]; done) | skip
  rename_i xs
  match xs with
  | [] => simp [forTurn, bindT, lbTurn, lokS]
  | [_] => simp [forTurn, bindT, lbTurn, lokS]
  | [_, _] => simp [forTurn, bindT, lbTurn, lokS]
  | _ :: _ :: _ :: _ :: r =>
    have : ¬ ((r.length : Int) + 1 + 1 + 1 + 1 = 3) := by omega
    simp [forTurn, bindT, lbTurn, lokS, this]
  | [p, b, c] =>
    cases p <;> first | (simp [forTurn, bindT, lbTurn, lokS, isPot, idxD, atD, L2.ixN, callF, isInt]; done) | skip
    rename_i p
    by_cases hp0 : 0 ≤ p
    · by_cases hp1 : m ≤ p
      · have hp1' : ¬ p < m := by omega
        cases b <;> simp [forTurn, bindT, lbTurn, lokS, isPot, idxD, atD, L2.ixN, callF, isInt, hp0, hp1, hp1']
      · have hp1' : p < m := by omega
        by_cases hp2 : p ∈ ts
        · cases b <;> simp [forTurn, bindT, lbTurn, lokS, isPot, idxD, atD, L2.ixN, callF, isInt, hp0, hp1, hp2]
        · cases b <;> first | (simp [forTurn, bindT, lbTurn, lokS, isPot, idxD, atD, L2.ixN, callF, isInt, hp0, hp1, hp2]; done) | skip
          rename_i tl
          have hl := hs _ _ _ rfl
          simp [forTurn, bindT, lbTurn, isPot, idxD, atD, L2.ixN, callF, hp0, hp1, hp1', hp2]
          rw [lc_all (xs := tl) (k := false) (g := fun x => .bool (inW ts x)) (by simp) (fun x hx => by
            cases x <;> simp [lcTurn, bindT, blkS, wipeS, dropF, callF, isInt, inW])]
          by_cases hall : tl.all (inW ts) = true
          · simp [hall, isInt, -List.all_eq_true]
            obtain ⟨l, rfl, hl2⟩ := inW_ints hall
            simp only [List.length_map] at hl
            by_cases has : ascI l = true
            · have hss := sset_eq.mpr has
              simp [bi_sset hl, eqv_ll, ← hss, lokS, hp0, hp1', hp2, has]
              have hlen1 : ∀ ps' : List (Int × Int), ps'.length ≤ ps.length → ps'.length + l.length ≤ sz := fun ps' h => by show _ ≤ 16777216; omega
              have hlen2 : ts.length + 1 ≤ sz := by show _ ≤ 16777216; omega
              have hnp : ∀ q : Int, l.map (fun t => pt (min t q, max t q)) = pl (newP q l) := fun q => by simp [newP]
              cases hn : isNoneD c with
              | true =>
                have hc : c = .none := by cases c <;> first | rfl | cases hn
                subst hc
                by_cases hm : l.length = min ts.length 2
                · have hm' : (l.length : Int) = if 2 < (ts.length : Int) then 2 else (ts.length : Int) := by
                    rw [Nat.min_def] at hm
                    split at hm <;> split <;> omega
                  have hlg : lgone ts ps l .none = true := decide_eq_true hm
                  have hk : keepP none ps = ps := by simp [keepP]
                  rw [if_pos rfl, if_pos hm', if_pos ⟨hl2, hlg⟩]
                  rw [lc_map (zs := l) (f := .int) (k := false) (fun t => pt (min t p, max t p)) (by simp) (by
                    intro z hz
                    simp [lcTurn, bindT, blkS, wipeS, dropF, callF])]
                  simp [hlen1 ps (Nat.le_refl _), hlen2, hk, goneOf, goneD, hnp]
                · have hm' : ¬ (l.length : Int) = if 2 < (ts.length : Int) then 2 else (ts.length : Int) := by
                    rw [Nat.min_def] at hm
                    split at hm <;> split <;> omega
                  have hlg : ¬ lgone ts ps l .none = true := by simpa [lgone] using hm
                  rw [if_pos rfl, if_neg hm', if_neg (fun h => hlg h.2)]
              | false =>
                by_cases ht3 : (ts.length : Int) < 3
                · have hlg : ¬ lgone ts ps l c = true := fun h => by have := (lgone_pair hn h).1; omega
                  rw [if_neg (by simp), if_pos ht3, if_neg (fun h => hlg h.2)]
                · by_cases hl3 : (l.length : Int) = 3
                  · rw [if_neg (by simp), if_neg ht3, if_pos hl3]
                    by_cases hct : isTd c = true
                    · cases c <;> first | (cases hct; done) | skip
                      rename_i cs
                      by_cases hc2 : (cs.length : Int) = 2
                      · match cs, hc2 with
                        | [x, y], _ =>
                          simp
                          rw [lc_all (xs := [x, y]) (k := false) (g := fun x => .bool (inW l x)) (by simp) (fun x hx => by
                            cases x <;> simp [lcTurn, bindT, blkS, wipeS, dropF, callF, isInt, inW])]
                          have hne : ∀ h : lgone ts ps l (.tuple [x, y]) = true, [x, y].all (inW l) = true := fun h => by
                            obtain ⟨_, _, q, e, hq1, hq2, _⟩ := lgone_pair hn h
                            cases e
                            simp [inW, hq1, hq2]
                          have hba : biD .all [.list [.bool (inW l x), .bool (inW l y)]] = some (.bool ([x, y].all (inW l))) := bi_all (xs := [x, y]) (p := inW l)
                          cases hcw : [x, y].all (inW l) with
                          | false =>
                            rw [if_neg (fun h => by rw [hne h.2] at hcw; cases hcw)]
                            rw [hcw] at hba
                            simp [hba]
                          | true =>
                            rw [hcw] at hba
                            obtain ⟨cl, hcl, hcm⟩ := inW_ints hcw
                            match cl, hcl with
                            | [u, w], hcl =>
                              cases hcl
                              have hq : (.tuple [.int u, .int w] : PyData) = pt (u, w) := rfl
                              simp only [hq, inD_pl]
                              have hu : inW l (.int u) = true := by simpa [inW] using hcm u (by simp)
                              have hw : inW l (.int w) = true := by simpa [inW] using hcm w (by simp)
                              have hba3 : biD .all [.list [.bool true, .bool true]] = some (.bool true) := rfl
                              simp [hu, hw, hba3]
                              by_cases hin : (u, w) ∈ ps
                              · have hlg : lgone ts ps l (pt (u, w)) = true := by
                                  show lgone ts ps l (.tuple [.int u, .int w]) = true
                                  simp only [lgone, decide_eq_true_eq]
                                  exact ⟨by omega, by omega, hcm u (by simp), hcm w (by simp), hin⟩
                                have hgo : goneOf (pt (u, w)) = some (some (u, w)) := rfl
                                have hcond : (∀ t : Int, t ∈ l → t ∈ ts) ∧ lgone ts ps l (pt (u, w)) = true := ⟨hl2, hlg⟩
                                rw [if_pos hcond, hgo]
                                simp [hin]
                                rw [lc_fil (zs := ps) (f := pt) (k := false) (fun q => !decide (q = (u, w))) pt (by simp) (by
                                  intro z hz
                                  simp [lcTurn, bindT, blkS, wipeS, dropF]
                                  split <;> rfl)]
                                simp
                                rw [lc_map (zs := l) (f := .int) (k := false) (fun t => pt (min t p, max t p)) (by simp) (by
                                  intro z hz
                                  simp [lcTurn, bindT, blkS, wipeS, dropF, callF])]
                                have hk : (ps.filter fun q => !decide (q = (u, w))) = keepP (some (u, w)) ps := by simp [keepP]
                                have hkl := hlen1 (keepP (some (u, w)) ps) (keepP_len _ _)
                                simp [hk, hkl, hlen2, goneD, hnp]
                              · have hlg : ¬ lgone ts ps l (pt (u, w)) = true := fun h => by
                                  obtain ⟨_, _, q, e, _, _, h3⟩ := lgone_pair hn h
                                  cases e
                                  exact hin h3
                                have hcond : ¬ ((∀ t : Int, t ∈ l → t ∈ ts) ∧ lgone ts ps l (pt (u, w)) = true) := fun h => hlg h.2
                                rw [if_neg hcond]
                                simp [hin]
                      · have hlg : ¬ lgone ts ps l (.tuple cs) = true := fun h => by
                          obtain ⟨_, _, q, e, _⟩ := lgone_pair hn h
                          cases e
                          exact hc2 rfl
                        simp [hc2, hlg]
                    · have hlg : ¬ lgone ts ps l c = true := fun h => by
                        obtain ⟨_, _, q, e, _⟩ := lgone_pair hn h
                        rw [e] at hct
                        exact hct rfl
                      simp [hct, hlg]
                  · have hlg : ¬ lgone ts ps l c = true := fun h => by have := (lgone_pair hn h).2.1; omega
                    rw [if_neg (by simp), if_neg ht3, if_neg hl3, if_neg (fun h => hlg h.2)]
            · have hss : ¬ l = sset l := fun e => has (sset_eq.mp e)
              simp [bi_sset hl, eqv_ll, hss, lokS, hp0, hp1', hp2, has]
          · have hall : tl.all (inW ts) = false := by simpa using hall
            have hnone : lokS m ts ps (.tuple [.int p, .tuple tl, c]) = none := by
              simp only [lokS]
              rw [if_pos ⟨hp0, hp1', hp2⟩]
              cases e : intsOf tl with
              | none => rfl
              | some l =>
                rw [Option.bind_some, if_neg]
                rintro ⟨h, _⟩
                rw [intsOf_some e] at hall
                rw [List.all_map] at hall
                have : (l.all (inW ts ∘ PyData.int)) = true := List.all_eq_true.mpr fun t ht => by simpa [inW] using h t ht
                rw [this] at hall
                cases hall
            rw [hnone]
            simp [hall, isInt, -List.all_eq_true]
    · cases b <;> simp [forTurn, bindT, lbTurn, lokS, isPot, idxD, atD, L2.ixN, callF, isInt, hp0]
end PyD
namespace PyD
open PySem PySem.Spec PyProof.Rows L2
/-- what the fold keeps -/
def Jn (m : Int) (ts : List Int) (ps : List (Int × Int)) : Prop := (∀ t ∈ ts, 0 ≤ t ∧ t < m) ∧ (∀ q ∈ ps, q.1 ∈ ts ∧ q.2 ∈ ts ∧ q.1 < q.2) ∧ ps.Nodup
theorem goneOf_some {c : PyData} {g : Option (Int × Int)} (h : goneOf c = some g) : c = goneD g := by
  unfold goneOf at h
  split at h
  · cases h; rfl
  · cases h; rfl
  · cases h
theorem lgone_len {ts : List Int} {ps : List (Int × Int)} {l : List Int} {c : PyData} (h : lgone ts ps l c = true) : l.length ≤ 3 := by
  cases hn : isNoneD c with
  | true =>
    have hc : c = .none := by cases c <;> first | rfl | cases hn
    subst hc
    have := of_decide_eq_true h
    omega
  | false => have := (lgone_pair hn h).2.1; omega
theorem lok_some {m : Int} {ts : List Int} {ps : List (Int × Int)} {v : PyData} {s : Step} (h : lokS m ts ps v = some s) : v = stD s ∧ 0 ≤ s.1 ∧ s.1 < m ∧ s.1 ∉ ts ∧ (∀ t ∈ s.2.1, t ∈ ts) ∧ ascI s.2.1 = true ∧ s.2.1.length ≤ 3 := by
  unfold lokS at h
  split at h
  · rename_i p tl c
    split at h
    · rename_i hp
      obtain ⟨l, h1, h2⟩ := Option.bind_eq_some_iff.mp h
      split at h2
      · rename_i hc
        obtain ⟨g, h3, h4⟩ := Option.map_eq_some_iff.mp h2
        subst h4
        exact ⟨by rw [intsOf_some h1, goneOf_some h3]; rfl, hp.1, hp.2.1, hp.2.2, hc.1, hc.2.1, lgone_len hc.2.2⟩
      · cases h2
    · cases h
  · cases h
theorem lgone_eq {m : Int} {ts : List Int} {ps : List (Int × Int)} (hm : m ≤ 7) (hj : Jn m ts ps) {l : List Int} {c : PyData} : goneB ts ps l c = lgone ts ps l c := by
  unfold goneB lgone
  split
  · rw [Nat.min_comm]
  · rename_i x y
    refine decide_eq_decide.mpr ⟨fun h => ⟨h.1, h.2.1, h.2.2.2.2.2.1, h.2.2.2.2.2.2.1, h.2.2.2.2.2.2.2⟩, fun h => ?_⟩
    obtain ⟨q1, q2, q3⟩ := hj.2.1 _ h.2.2.2.2
    have h1 := hj.1 _ q1
    have h2 := hj.1 _ q2
    simp only at h1 h2 q3
    exact ⟨h.1, h.2.1, h1.1, q3, by omega, h.2.2.1, h.2.2.2.1, h.2.2.2.2⟩
  · rename_i h1 h2
    first
      | rfl
      | (split
         · exact (h1 rfl).elim
         · exact (h2 _ _ rfl).elim
         · rfl)
theorem lok_eq {m : Int} {ts : List Int} {ps : List (Int × Int)} (hm : m ≤ 7) (hj : Jn m ts ps) (v : PyData) : lokS m ts ps v = okStep m ts ps v := by
  have hts : ∀ l : List Int, (l.all fun i => inTs ts (.int i)) = true ↔ ∀ t ∈ l, t ∈ ts := fun l => by
    rw [List.all_eq_true]
    constructor
    · intro h t ht
      have := h t ht
      simp only [inTs, decide_eq_true_eq] at this
      exact this.2.2
    · intro h t ht
      have h1 := h t ht
      have h2 := hj.1 t h1
      simp only [inTs, decide_eq_true_eq]
      exact ⟨h2.1, by omega, h1⟩
  cases hl : lokS m ts ps v with
  | some s =>
    obtain ⟨rfl, h1, h2, h3, h4, h5, h6⟩ := lok_some hl
    have hg : lgone ts ps s.2.1 (goneD s.2.2) = true := by
      simp only [stD, lokS, intsOf_il, goneOf_D] at hl
      split at hl
      · rw [Option.bind_some] at hl
        split at hl
        · rename_i h; exact h.2.2
        · cases hl
      · cases hl
    have hs : sirB ts ps (stD s) = true := by
      simp only [stD, sirB]
      rw [sir3_good ⟨h1, by omega, h3⟩ ((hts _).mpr h4), h5, lgone_eq hm hj, hg]
      rfl
    simp only [okStep, hs, if_true, stepOf_D, Option.bind_some, h2]
  | none =>
    cases hs : sirB ts ps v with
    | false => simp [okStep, hs]
    | true =>
      obtain ⟨s, rfl, _⟩ := sirB_inv hs
      simp only [okStep, hs, if_true, stepOf_D, Option.bind_some]
      rw [if_neg]
      intro hlt
      simp only [stD, sirB, sir3, intsOf_il, Bool.and_eq_true, decide_eq_true_eq] at hs
      obtain ⟨⟨h1, h2, h3⟩, h4, h5, h6⟩ := hs
      rw [lgone_eq hm hj] at h6
      have : lokS m ts ps (stD s) = some s := by
        simp only [stD, lokS, intsOf_il, goneOf_D]
        rw [if_pos ⟨h1, hlt, h3⟩, Option.bind_some, if_pos ⟨(hts _).mp h4, h5, h6⟩]
        rfl
      rw [this] at hl
      cases hl
theorem Jn_step {m : Int} {ts : List Int} {ps : List (Int × Int)} (hm : m ≤ 7) (hj : Jn m ts ps) {v : PyData} {s : Step} (h : okStep m ts ps v = some s) : Jn m (ts ++ [s.1]) (keepP s.2.2 ps ++ newP s.1 s.2.1) ∧ s.2.1.length ≤ 3 := by
  rw [← lok_eq hm hj] at h
  obtain ⟨_, h1, h2, h3, h4, h5, h6⟩ := lok_some h
  refine ⟨⟨?_, ?_, ?_⟩, h6⟩
  · intro t ht
    rcases List.mem_append.mp ht with ht | ht
    · exact hj.1 t ht
    · rw [List.mem_singleton.mp ht]; exact ⟨h1, h2⟩
  · intro q hq
    rcases List.mem_append.mp hq with hq | hq
    · obtain ⟨a, b, c⟩ := hj.2.1 q (List.mem_filter.mp hq).1
      exact ⟨List.mem_append.mpr (.inl a), List.mem_append.mpr (.inl b), c⟩
    · obtain ⟨t, ht, rfl⟩ := List.mem_map.mp hq
      have h7 := h4 t ht
      have hne : t ≠ s.1 := fun e => h3 (e ▸ h7)
      simp only [List.mem_append, List.mem_singleton]
      rcases Int.lt_or_gt_of_ne hne with hlt | hgt
      · rw [Int.min_eq_left (by omega), Int.max_eq_right (by omega)]
        exact ⟨.inl h7, .inr rfl, hlt⟩
      · rw [Int.min_eq_right (by omega), Int.max_eq_left (by omega)]
        exact ⟨.inr rfl, .inl h7, hgt⟩
  · refine List.nodup_append.mpr ⟨hj.2.2.filter _, ?_, ?_⟩
    · unfold newP
      have hn : s.2.1.Pairwise (· < ·) := ascI_iff.mp h5
      refine List.Pairwise.map _ ?_ ((List.pairwise_iff_forall_sublist.mpr fun {a b} hab => ?_ : s.2.1.Pairwise fun a b => a < b ∧ a ≠ s.1 ∧ b ≠ s.1))
      · rintro a b ⟨hab, ha, hb⟩ e
        simp only [Prod.mk.injEq] at e
        omega
      · have h9 := List.pairwise_iff_forall_sublist.mp hn hab
        have ha : a ∈ s.2.1 := hab.subset (by simp)
        have hb : b ∈ s.2.1 := hab.subset (by simp)
        exact ⟨h9, fun e => h3 (e ▸ h4 a ha), fun e => h3 (e ▸ h4 b hb)⟩
    · intro q hq r hr e
      subst e
      obtain ⟨a, b, c⟩ := hj.2.1 q (List.mem_filter.mp hq).1
      obtain ⟨t, ht, rfl⟩ := List.mem_map.mp hr
      simp only at a b
      rcases Int.le_total t s.1 with hle | hle
      · rw [Int.max_eq_right hle] at b; exact h3 b
      · rw [Int.min_eq_right hle] at a; exact h3 a
theorem foldB_J {m : Int} (hm : m ≤ 7) : ∀ (xs : List PyData) (ts : List Int) (ps qs : List (Int × Int)), Jn m ts ps → foldB m xs ts ps = some qs → ∃ ts', Jn m ts' qs
  | [], ts, ps, qs, hj, h => by cases h; exact ⟨ts, hj⟩
  | x :: r, ts, ps, qs, hj, h => by
    rw [foldB] at h
    obtain ⟨s, h1, h2⟩ := Option.bind_eq_some_iff.mp h
    exact foldB_J hm r _ _ qs (Jn_step hm hj h1).1 h2
theorem Jn_nil (m : Int) : Jn m [] [] := ⟨by simp, by simp, List.nodup_nil⟩
theorem built_RP {m : Int} (hm : m ≤ 7) {v : PyData} {qs : List (Int × Int)} (h : built m v = some qs) : RP m (sortP qs) := by
  obtain ⟨xs, h1, h2⟩ := Option.bind_eq_some_iff.mp h
  split at h2
  · obtain ⟨ts, hj⟩ := foldB_J hm xs [] [] qs (Jn_nil m) h2
    refine ⟨fun p hp => ?_, ?_⟩
    · obtain ⟨a, b, c⟩ := hj.2.1 p (mem_sortP.mp hp)
      exact ⟨(hj.1 _ a).1, c, (hj.1 _ b).2⟩
    · have hn : (sortP qs).Nodup := (sortP_perm qs).nodup_iff.mpr hj.2.2
      have hs := sortP_sorted qs
      have := hs.and hn
      refine this.imp ?_
      rintro a b ⟨h3, h4⟩
      rw [leP_iff] at h3
      rw [ltP_iff]
      rcases h3 with h3 | ⟨h3, h5⟩
      · exact .inl h3
      · refine .inr ⟨h3, ?_⟩
        rcases Int.lt_or_eq_of_le h5 with h6 | h6
        · exact h6
        · exact absurd (Prod.ext h3 h6) h4
  · cases h2
theorem e_lb_loop (m : Int) (hm : m ≤ 7) (a : PyData) (st : Pot) : ∀ (xs : List PyData) (ts : List Int) (ps : List (Int × Int)) (s4 s5 s6 s7 s8 s9 s10 : Sl), (∀ x ∈ xs, ∀ p tl c, x = .tuple [p, .tuple tl, c] → tl.length < 64) → Jn m ts ps → ts.length + xs.length ≤ 7 → ps.length ≤ 3 * ts.length → exsK G23 lbEnd (forGo (forTurn G23 (.tup [4, 5]) lbTurn) (enumD ts.length xs) [.v (.d (.int m)), .v (.d a), .v (.d (.list (il ts))), .v (.d (.list (pl ps))), s4, s5, s6, s7, s8, s9, s10] st) = .ok (.ret (.d (optD (foldB m xs ts ps)))) st
  | [], ts, ps, s4, s5, s6, s7, s8, s9, s10, _, _, _, _ => by
    simp [enumD, foldB, optD, sortD_pl]
  | x :: r, ts, ps, s4, s5, s6, s7, s8, s9, s10, hs, hj, h1, h2 => by
    simp only [List.length_cons] at h1
    rw [enumD, forGo_cons, lb_turn (hs x (List.mem_cons_self ..)) (by omega) (by omega) (fun q hq => (hj.2.1 q hq).2.2), lok_eq hm hj, foldB]
    cases ho : okStep m ts ps x with
    | none => simp [optD]
    | some s =>
      obtain ⟨hj', hl⟩ := Jn_step hm hj ho
      have hk := keepP_len s.2.2 ps
      have ih := e_lb_loop m hm a st r (ts ++ [s.1]) (keepP s.2.2 ps ++ newP s.1 s.2.1) (.v (.d (.int ts.length))) (.v (.d x)) (.v (.d (.int s.1))) (.v (.d (.tuple (il s.2.1)))) (.v (.d (goneD s.2.2))) s9 s10 (fun y hy => hs y (List.mem_cons_of_mem _ hy)) hj' (by simp; omega) (by simp; omega)
      rw [Option.bind_some, ← ih]
      have : (ts ++ [s.1]).length = ts.length + 1 := by simp
      rw [this]
      rfl
theorem e_lbuilt (m : Int) (hm : m ≤ 7) (v : PyData) (hv : ∀ xs, seqOf v = some xs → ∀ x ∈ xs, ∀ p tl c, x = .tuple [p, .tuple tl, c] → tl.length < 64) (st : Pot) : F23.sem [.d (.int m), .d v] st = .ok (.d (optD (built m v))) st := by
  rw [s_F23]
  cases v <;> simp [run_eq, b__law_built, callF, built, optD]
  · rename_i xs
    split
    · rename_i h
      have := e_lb_loop m hm (.list xs) st xs [] [] .un .un .un .un .un .un .un (hv xs rfl) (Jn_nil m) (by simp; omega) (by simp)
      simp at this
      simp [parGo, this, optD]
    · rfl
  · rename_i xs
    split
    · rename_i h
      have := e_lb_loop m hm (.tuple xs) st xs [] [] .un .un .un .un .un .un .un (hv xs rfl) (Jn_nil m) (by simp; omega) (by simp)
      simp at this
      simp [parGo, this, optD]
    · rfl
end PyD
namespace PyD
open PySem PySem.Spec PyProof.Rows L2
def dTail : Sms := (.cons (.app 3 (.tup (.cons (.var 6) (.cons (.var 7) (.cons (.var 8) .nil)))))
  (.cons (.asg (.nm 4) (.bin .add (.lc (.nm 11) (.seq (.var 4)) (.so (.val (.cmp .ne (.var 11) (.var 8)))) (.var 11) [("pair", 11)]) (.lc (.nm 12) (.seq (.var 7)) .no (.call 22 (.cons (.var 12) (.cons (.var 6) .nil))) [("one", 12)])))
  .nil))
abbrev drTurn : Sms := (.cons (.par [(7, false), (8, false)] (.cons (.bi .tuple (.cons (.bi .sorted (.cons (.slc (.call 17 (.cons (.var 0) (.cons (.slc (.var 2) .no (.so (.var 5))) .nil))) .no (.so (.cst (.int 2)))) .nil)) .nil)) (.cons (.cst .none) .nil)))
  (.cons (.ife (.and (.val (.cmp .gt (.var 5) (.cst (.int 2)))) (.val (.cmp .eq (.call 15 (.cons (.var 0) (.cons (.cst (.int 2)) .nil))) (.cst (.int 0))))) (.cons (.asg (.nm 9) (.bi .tuple (.cons (.bi .sorted (.cons (.slc (.call 17 (.cons (.var 0) (.cons (.slc (.var 2) .no (.so (.var 5))) .nil))) .no (.so (.cst (.int 3)))) .nil)) .nil)))
  (.cons (.asg (.nm 10) (.lc (.nm 11) (.seq (.var 4)) (.so (.and (.val (.cmp .isin (.idx (.var 11) (.cst (.int 0))) (.var 9))) (.val (.cmp .isin (.idx (.var 11) (.cst (.int 1))) (.var 9))))) (.var 11) [("pair", 11)]))
  (.cons (.ife (.val (.cmp .ne (.var 10) (.lst .nil))) (.cons (.par [(7, false), (8, false)] (.cons (.var 9) (.cons (.call 16 (.cons (.var 0) (.cons (.var 10) .nil))) .nil)))
  .nil) .nil)
  .nil))) .nil)
  dTail))
abbrev drEnd : Sms := .cons (.ret (.so (.var 3))) .nil
theorem sort_asc {l : List Int} (h : l.Nodup) : ascI (sortI l) = true := by
  rw [ascI_iff]
  have hn : (sortI l).Nodup := (sortI_perm l).nodup_iff.mpr h
  refine ((sortI_sorted l).and hn).imp ?_
  rintro a b ⟨h1, h2⟩
  omega
@[simp] theorem idx_pt0 {z : Int × Int} : idxD (pt z) (.int 0) = some (.int z.1) := rfl
@[simp] theorem idx_pt1 {z : Int × Int} : idxD (pt z) (.int 1) = some (.int z.2) := rfl
@[simp] theorem eqv_lnil {xs : List PyData} : PyData.eqv (.list xs) (.list []) = xs.isEmpty := by
  cases xs <;> simp [PyData.eqv, PyData.eqvAll]
@[simp] theorem shp_nil : shp (.list []) = true := rfl
/-- the last two steps of a turn -/
theorem dr_tail {m : Int} {o : List Int} {ds : List PyData} {ps : List (Int × Int)} {n p : Int} {l : List Int} {g : Option (Int × Int)} {s9 s10 s11 s12 : Sl} {st : Pot} (hd : ds.length < 1000) (hp : ps.length < 1000) (hl : l.length ≤ 3) : exs G24 dTail [.v .pot, .v (.d (.int m)), .v (.d (.list (il o))), .own ds, .v (.d (.list (pl ps))), .v (.d (.int n)), .v (.d (.int p)), .v (.d (.tuple (il l))), .v (.d (goneD g)), s9, s10, s11, s12] st = .ok (.nx [.v .pot, .v (.d (.int m)), .v (.d (.list (il o))), .own (ds ++ [stD (p, l, g)]), .v (.d (.list (pl (keepP g ps ++ newP p l)))), .v (.d (.int n)), .v (.d (.int p)), .v (.d (.tuple (il l))), .v (.d (goneD g)), s9, s10, s11, s12]) st := by
  have hz : ds.length < sz := by show _ < 16777216; omega
  have hk := keepP_len g ps
  have hz2 : (keepP g ps).length + l.length ≤ sz := by show _ ≤ 16777216; omega
  simp [dTail, ex_app, hz]
  rw [lc_fil (zs := ps) (f := pt) (k := false) (fun q => !decide (some q = g)) pt (by simp) (by
    intro z hz
    simp [lcTurn, bindT, blkS, wipeS, dropF, shp_gone, eqv_gone]
    split <;> rfl)]
  simp
  rw [lc_map (zs := l) (f := .int) (k := false) (fun t => pt (min t p, max t p)) (by simp) (by
    intro z hz
    simp [lcTurn, bindT, blkS, wipeS, dropF, callF])]
  have hnp : l.map (fun t => pt (min t p, max t p)) = pl (newP p l) := by simp [newP]
  have hk2 : (ps.filter fun q => !decide (some q = g)) = keepP g ps := rfl
  simp [hnp, hk2, hz2]
theorem dr_turn {m : Int} (hm : 1 ≤ m ∧ m ≤ 6) {o ts rest : List Int} {p : Int} (ho : o = ts ++ p :: rest) (hn : o.Nodup) (hb : ∀ x ∈ o, 0 ≤ x ∧ x < m) (hol : o.length ≤ 7) {ps : List (Int × Int)} (hj : Jn m ts ps) (hps : ps.length ≤ 3 * ts.length) {ds : List PyData} (hd : ds.length < 1000) {s5 s6 s7 s8 s9 s10 s11 s12 : Sl} {st : Pot} (hp : PI st) : ∃ (s : Step) (st' : Pot) (t9 t10 : Sl), s.1 = p ∧ lokS m ts ps (stD s) = some s ∧ PI st' ∧ forTurn G24 (.tup [5, 6]) drTurn (.tuple [.int ts.length, .int p]) [.v .pot, .v (.d (.int m)), .v (.d (.list (il o))), .own ds, .v (.d (.list (pl ps))), s5, s6, s7, s8, s9, s10, s11, s12] st = .ok (.nx [.v .pot, .v (.d (.int m)), .v (.d (.list (il o))), .own (ds ++ [stD s]), .v (.d (.list (pl (keepP s.2.2 ps ++ newP s.1 s.2.1)))), .v (.d (.int ts.length)), .v (.d (.int p)), .v (.d (.tuple (il s.2.1))), .v (.d (goneD s.2.2)), t9, t10, s11, s12]) st' := by
  have hto : List.take ts.length (il o) = il ts := by rw [ho]; simp
  have htl : ts.length ≤ 6 := by rw [ho] at hol; simp at hol; omega
  have hpp : 0 ≤ p ∧ p < m ∧ p ∉ ts := by
    have h1 := hb p (by rw [ho]; simp)
    refine ⟨h1.1, h1.2, fun h => ?_⟩
    rw [ho, List.nodup_append] at hn
    exact hn.2.2 p h p (by simp) rfl
  have hnt : ts.Nodup := by rw [ho, List.nodup_append] at hn; exact hn.1
  obtain ⟨l1, st1, hl1, hp1, e1⟩ := e_mixed (f := PyData.int) (l := ts) (by omega) hp
  have hs2 : sortD (List.take 2 (il l1)) = some (il (sortI (l1.take 2))) := by
    have : List.take 2 (il l1) = il (l1.take 2) := (List.map_take ..).symm
    rw [this, sortD_il]
  have hlen1 : l1.length = ts.length := hl1.length_eq
  have hok1 : lokS m ts ps (stD (p, sortI (l1.take 2), none)) = some (p, sortI (l1.take 2), none) := by
    simp only [stD, lokS, intsOf_il, goneOf_D]
    rw [if_pos hpp, Option.bind_some, if_pos]
    · rfl
    · refine ⟨fun t ht => hl1.subset ((List.take_subset _ _) (mem_sortI.mp ht)), sort_asc ((hl1.nodup_iff.mpr hnt).sublist (List.take_sublist ..)), ?_⟩
      show decide ((sortI (l1.take 2)).length = min ts.length 2) = true
      rw [decide_eq_true_eq, (sortI_perm _).length_eq, List.length_take, hlen1, Nat.min_comm]
  have hlen2 : (sortI (l1.take 2)).length ≤ 3 := by rw [(sortI_perm _).length_eq, List.length_take]; omega
  by_cases h2 : 2 < ts.length
  · have h2' : (2 : Int) < ts.length := by omega
    obtain ⟨r, st2, e2, hr0, hr1, hp2⟩ := e_draw hp1 (n := 2) (by omega)
    by_cases hr : r = 0
    · subst hr
      obtain ⟨l2, st3, hl2, hp3, e3⟩ := e_mixed (f := PyData.int) (l := ts) (by omega) hp2
      have hs3 : sortD (List.take 3 (il l2)) = some (il (sortI (l2.take 3))) := by
        have : List.take 3 (il l2) = il (l2.take 3) := (List.map_take ..).symm
        rw [this, sortD_il]
      have hlen3 : (sortI (l2.take 3)).length = 3 := by rw [(sortI_perm _).length_eq, List.length_take, hl2.length_eq]; omega
      have hsub : ∀ t ∈ sortI (l2.take 3), t ∈ ts := fun t ht => hl2.subset ((List.take_subset _ _) (mem_sortI.mp ht))
      have hasc : ascI (sortI (l2.take 3)) = true := sort_asc ((hl2.nodup_iff.mpr hnt).sublist (List.take_sublist ..))
      generalize hsm : sortI (l2.take 3) = sm at hs3 hlen3 hsub hasc
      generalize hth : (ps.filter fun q => decide (q.1 ∈ sm) && decide (q.2 ∈ sm)) = th
      have hthl : th.length ≤ ps.length := by rw [← hth]; exact List.length_filter_le ..
      cases hte : th with
      | nil =>
        refine ⟨(p, sortI (l1.take 2), none), st3, .v (.d (.tuple (il sm))), .v (.d (.list [])), rfl, hok1, hp3, ?_⟩
        have ht := dr_tail (m := m) (o := o) (n := ts.length) (p := p) (g := none) (s9 := .v (.d (.tuple (il sm)))) (s10 := .v (.d (.list []))) (s11 := s11) (s12 := s12) (st := st3) hd (show ps.length < 1000 by omega) hlen2
        simp only [goneD] at ht ⊢
        simp [forTurn, bindT, drTurn, callF, e1, e2, e3, hto, hs2, hs3, h2', parGo, -List.map_take]
        rw [lc_fil (zs := ps) (f := pt) (k := false) (fun q => decide (q.1 ∈ sm) && decide (q.2 ∈ sm)) pt (by simp) (by
          intro z hz
          simp [lcTurn, bindT, blkS, wipeS, dropF, isPot]
          by_cases h1 : z.1 ∈ sm <;> by_cases h2 : z.2 ∈ sm <;> simp [h1, h2])]
        rw [hth, hte]
        simp
        rw [ht]
        simp [goneD]
      | cons t0 tr =>
        obtain ⟨q, hq, st4, e4, hp4⟩ := e_pick (f := pt) (l := th) (by rw [hte]; simp; rw [hte] at hthl; simp at hthl; omega) hp3
        have hqf : q ∈ ps ∧ q.1 ∈ sm ∧ q.2 ∈ sm := by
          rw [← hth, List.mem_filter] at hq
          simpa using hq
        have hok2 : lokS m ts ps (stD (p, sm, some q)) = some (p, sm, some q) := by
          simp only [stD, lokS, intsOf_il, goneOf_D]
          rw [if_pos hpp, Option.bind_some, if_pos]
          · rfl
          · refine ⟨hsub, hasc, ?_⟩
            show lgone ts ps sm (pt q) = true
            simp only [pt, lgone, decide_eq_true_eq]
            exact ⟨by omega, hlen3, hqf.2.1, hqf.2.2, hqf.1⟩
        refine ⟨(p, sm, some q), st4, .v (.d (.tuple (il sm))), .v (.d (.list (pl th))), rfl, hok2, hp4, ?_⟩
        have ht := dr_tail (m := m) (o := o) (n := ts.length) (p := p) (l := sm) (g := some q) (s9 := .v (.d (.tuple (il sm)))) (s10 := .v (.d (.list (pl th)))) (s11 := s11) (s12 := s12) (st := st4) hd (show ps.length < 1000 by omega) (by omega)
        have hne : th.isEmpty = false := by rw [hte]; rfl
        have hne2 : ¬ th = [] := by rw [hte]; simp
        simp only [goneD] at ht ⊢
        simp [forTurn, bindT, drTurn, callF, e1, e2, e3, hto, hs2, hs3, h2', parGo, -List.map_take]
        rw [lc_fil (zs := ps) (f := pt) (k := false) (fun q => decide (q.1 ∈ sm) && decide (q.2 ∈ sm)) pt (by simp) (by
          intro z hz
          simp [lcTurn, bindT, blkS, wipeS, dropF, isPot]
          by_cases h1 : z.1 ∈ sm <;> by_cases h2 : z.2 ∈ sm <;> simp [h1, h2])]
        rw [hth]
        simp [hne, hne2, callF, e4, parGo]
        rw [ht]
        simp [goneD]
    · refine ⟨(p, sortI (l1.take 2), none), st2, s9, s10, rfl, hok1, hp2, ?_⟩
      have ht := dr_tail (m := m) (o := o) (n := ts.length) (p := p) (g := none) (s9 := s9) (s10 := s10) (s11 := s11) (s12 := s12) (st := st2) hd (show ps.length < 1000 by omega) hlen2
      simp only [goneD] at ht ⊢
      simp [forTurn, bindT, drTurn, callF, e1, e2, hto, hs2, h2', hr, parGo, -List.map_take]
      rw [ht]
      simp [goneD]
  · refine ⟨(p, sortI (l1.take 2), none), st1, s9, s10, rfl, hok1, hp1, ?_⟩
    have ht := dr_tail (m := m) (o := o) (n := ts.length) (p := p) (g := none) (s9 := s9) (s10 := s10) (s11 := s11) (s12 := s12) (st := st1) hd (show ps.length < 1000 by omega) hlen2
    have h2' : ¬ (2 : Int) < ts.length := by omega
    simp only [goneD] at ht ⊢
    simp [forTurn, bindT, drTurn, callF, e1, hto, hs2, h2', parGo, -List.map_take]
    rw [ht]
    simp [goneD]
theorem dr_loop {m : Int} (hm : 1 ≤ m ∧ m ≤ 6) {o : List Int} (hn : o.Nodup) (hb : ∀ x ∈ o, 0 ≤ x ∧ x < m) (hol : o.length ≤ 7) : ∀ (rest ts : List Int) (ps : List (Int × Int)) (ss : List Step) (s5 s6 s7 s8 s9 s10 s11 s12 : Sl) (st : Pot), o = ts ++ rest → PI st → Jn m ts ps → ps.length ≤ 3 * ts.length → ss.length = ts.length → (∀ r, foldB m (ss.map stD ++ r) [] [] = foldB m r ts ps) → (∀ s ∈ ss, 0 ≤ s.1 ∧ s.1 < m ∧ s.2.1.length ≤ 3 ∧ (∀ t ∈ s.2.1, 0 ≤ t ∧ t < m) ∧ ∀ q, s.2.2 = some q → 0 ≤ q.1 ∧ q.1 < m ∧ 0 ≤ q.2 ∧ q.2 < m) → ∃ (ss' : List Step) (qs : List (Int × Int)) (st' : Pot), PI st' ∧ ss'.length = o.length ∧ foldB m (ss'.map stD) [] [] = some qs ∧ (∀ s ∈ ss', 0 ≤ s.1 ∧ s.1 < m ∧ s.2.1.length ≤ 3 ∧ (∀ t ∈ s.2.1, 0 ≤ t ∧ t < m) ∧ ∀ q, s.2.2 = some q → 0 ≤ q.1 ∧ q.1 < m ∧ 0 ≤ q.2 ∧ q.2 < m) ∧ exsK G24 drEnd (forGo (forTurn G24 (.tup [5, 6]) drTurn) (enumD ts.length (il rest)) [.v .pot, .v (.d (.int m)), .v (.d (.list (il o))), .own (ss.map stD), .v (.d (.list (pl ps))), s5, s6, s7, s8, s9, s10, s11, s12] st) = .ok (.ret (.d (.list (ss'.map stD)))) st'
  | [], ts, ps, ss, s5, s6, s7, s8, s9, s10, s11, s12, st, ho, hp, hj, hps, hss, hf, hnice => by
    refine ⟨ss, ps, st, hp, by rw [ho, hss]; simp, ?_, hnice, by simp [enumD]⟩
    have := hf []
    rw [List.append_nil] at this
    rw [this]; rfl
  | p :: rest, ts, ps, ss, s5, s6, s7, s8, s9, s10, s11, s12, st, ho, hp, hj, hps, hss, hf, hnice => by
    have htl : ts.length ≤ 6 := by rw [ho] at hol; simp at hol; omega
    obtain ⟨s, st1, t9, t10, hsp, h1, h2, h3⟩ := dr_turn hm ho hn hb hol hj hps (ds := ss.map stD) (by simp; omega) (s5 := s5) (s6 := s6) (s7 := s7) (s8 := s8) (s9 := s9) (s10 := s10) (s11 := s11) (s12 := s12) hp
    have h1' := h1
    rw [lok_eq (by omega) hj] at h1'
    obtain ⟨hj', hl⟩ := Jn_step (by omega) hj h1'
    obtain ⟨hv, a1, a2, a3, a4, a5, a6⟩ := lok_some h1
    have hk := keepP_len s.2.2 ps
    have hmap : (ss ++ [s]).map stD = ss.map stD ++ [stD s] := by simp
    obtain ⟨ss', qs, st', b1, b2, b3, b4, b5⟩ := dr_loop hm hn hb hol rest (ts ++ [s.1]) (keepP s.2.2 ps ++ newP s.1 s.2.1) (ss ++ [s]) (.v (.d (.int ts.length))) (.v (.d (.int p))) (.v (.d (.tuple (il s.2.1)))) (.v (.d (goneD s.2.2))) t9 t10 s11 s12 st1 (by rw [ho, hsp]; simp) h2 hj' (by simp; omega) (by simp; omega) (by
      intro r
      rw [hmap, List.append_assoc, hf]
      show foldB m (stD s :: r) ts ps = _
      rw [foldB, h1']; rfl) (by
      intro x hx
      rcases List.mem_append.mp hx with hx | hx
      · exact hnice x hx
      · rw [List.mem_singleton.mp hx]
        refine ⟨a1, a2, hl, fun t ht => hj.1 t (a4 t ht), fun q hq => ?_⟩
        have hg : goneD s.2.2 = pt q := by rw [hq]; rfl
        have : lgone ts ps s.2.1 (pt q) = true := by
          simp only [stD, lokS, intsOf_il, goneOf_D] at h1
          split at h1
          · rw [Option.bind_some] at h1
            split at h1
            · rename_i h; rw [hg] at h; exact h.2.2
            · cases h1
          · cases h1
        obtain ⟨_, _, q', e, _, _, e3⟩ := lgone_pair rfl this
        have : q = q' := by
          obtain ⟨x, y⟩ := q
          obtain ⟨x', y'⟩ := q'
          cases e; rfl
        subst this
        obtain ⟨c1, c2, _⟩ := hj.2.1 q e3
        exact ⟨(hj.1 _ c1).1, (hj.1 _ c1).2, (hj.1 _ c2).1, (hj.1 _ c2).2⟩)
    refine ⟨ss', qs, st', b1, b2, b3, b4, ?_⟩
    rw [← b5, hmap]
    have hlen : (ts ++ [s.1]).length = ts.length + 1 := by simp
    rw [hlen, show il (p :: rest) = .int p :: il rest from rfl, enumD, forGo_cons, h3]
    rfl
/-- numbers of a drawn row -/
def niceS (m : Int) (s : Step) : Prop := 0 ≤ s.1 ∧ s.1 < m ∧ s.2.1.length ≤ 3 ∧ (∀ t ∈ s.2.1, 0 ≤ t ∧ t < m) ∧ ∀ q, s.2.2 = some q → 0 ≤ q.1 ∧ q.1 < m ∧ 0 ≤ q.2 ∧ q.2 < m
theorem e_drawn {m : Int} (hm : 1 ≤ m ∧ m ≤ 6) {st : Pot} (hp : PI st) : ∃ (ss : List Step) (qs : List (Int × Int)) (st' : Pot), PI st' ∧ (ss.length : Int) = m ∧ built m (.list (ss.map stD)) = some qs ∧ (∀ s ∈ ss, niceS m s) ∧ F24.sem [.pot, .d (.int m)] st = .ok (.d (.list (ss.map stD))) st' := by
  obtain ⟨o, st1, ho, hp1, e1⟩ := e_mixed (f := PyData.int) (l := rgI 0 m) (by rw [rgI_len]; omega) hp
  have hol : o.length = m.toNat := by rw [ho.length_eq, rgI_len]; omega
  obtain ⟨ss, qs, st', h1, h2, h3, h4, h5⟩ := dr_loop hm (o := o) (ho.nodup_iff.mpr rgI_nodup) (fun x hx => mem_rgI.mp (ho.subset hx)) (by omega) o [] [] [] .un .un .un .un .un .un .un .un st1 rfl hp1 (Jn_nil m) (by simp) rfl (fun r => rfl) (by simp)
  have hb : b__law_drawn_row = .cons (.asg (.nm 2) (.bi .list (.cons (.call 17 (.cons (.var 0) (.cons (.lrg false .no (.so (.var 1))) .nil))) .nil))) (.cons (.par [(3, true), (4, false)] (.cons (.lst .nil) (.cons (.lst .nil) .nil))) (.cons (.for_ (.tup [5, 6]) (.enum (.var 2)) drTurn) drEnd)) := rfl
  refine ⟨ss, qs, st', h1, by omega, ?_, h4, ?_⟩
  · simp only [built, seqOf_l, Option.bind_some, List.length_map]
    rw [if_pos (by omega)]
    exact h3
  · rw [s_F24, hb]
    simp only [List.length_nil, List.map_nil] at h5
    generalize drTurn = dt at h5 ⊢
    generalize drEnd = de at h5 ⊢
    simp [run_eq, callF, rgR_to st (n := m) (by omega), rgD_il, e1, parGo]
    rw [h5]
    rfl
end PyD
namespace PyD
open PySem PySem.Spec PyProof.Rows L2
/-- small data: nested at most so deep, at most 12 in one list -/
def niceD : Nat → PyData → Bool
  | _, .none => true
  | _, .bool _ => true
  | _, .int i => decide (i.natAbs ≤ 1000)
  | _, .str x => decide (x.length ≤ 1) && PyData.strOk x
  | k + 1, .list xs => decide (xs.length ≤ 12) && xs.all (niceD k)
  | k + 1, .tuple xs => decide (xs.length ≤ 12) && xs.all (niceD k)
  | _, _ => false
def niceB : Nat → Nat
  | 0 => 20
  | k + 1 => 12 * (niceB k + 2) + 3
theorem niceB_mono (k : Nat) : 20 ≤ niceB k := by
  induction k with
  | zero => exact Nat.le_refl _
  | succ k ih => simp only [niceB]; omega
theorem layAll_all : ∀ {xs : List PyData}, (∀ x ∈ xs, x.canLay0 = true) → PyData.canLayAll0 xs = true
  | [], _ => rfl
  | x :: r, h => by simp only [PyData.canLayAll0, h x (List.mem_cons_self ..), layAll_all fun y hy => h y (List.mem_cons_of_mem _ hy), Bool.and_self]
theorem showAll_all : ∀ {xs : List PyData}, (∀ x ∈ xs, x.showable = true) → PyData.showableAll xs = true
  | [], _ => rfl
  | x :: r, h => by simp only [PyData.showableAll, h x (List.mem_cons_self ..), showAll_all fun y hy => h y (List.mem_cons_of_mem _ hy), Bool.and_self]
theorem depAll_all {k : Nat} : ∀ {xs : List PyData}, (∀ x ∈ xs, x.depth ≤ k) → PyData.depthAll xs ≤ k
  | [], _ => Nat.zero_le _
  | x :: r, h => by
    have h1 := h x (List.mem_cons_self ..)
    have h2 := depAll_all fun y hy => h y (List.mem_cons_of_mem _ hy)
    simp only [PyData.depthAll]; omega
theorem shwAll_all {b : Nat} : ∀ {xs : List PyData}, (∀ x ∈ xs, shw x ≤ b) → shwAll xs ≤ xs.length * (b + 2)
  | [], _ => Nat.zero_le _
  | x :: r, h => by
    have h1 := h x (List.mem_cons_self ..)
    have h2 := shwAll_all fun y hy => h y (List.mem_cons_of_mem _ hy)
    simp only [shwAll, List.length_cons, Nat.succ_mul]; omega
theorem shw_bool (b : Bool) : shw (.bool b) ≤ 20 := by simp [shw]
theorem niceD_ok : ∀ (k : Nat) (d : PyData), niceD k d = true → d.canLay0 = true ∧ d.showable = true ∧ d.depth ≤ k ∧ shw d ≤ niceB k := by
  intro k
  induction k with
  | zero =>
    intro d h
    cases d with
    | none => exact ⟨rfl, rfl, Nat.le_refl _, by decide⟩
    | bool b => exact ⟨rfl, rfl, Nat.le_refl _, shw_bool b⟩
    | int i =>
      have h : i.natAbs ≤ 1000 := of_decide_eq_true h
      have hlog : i.natAbs.log2 < 11 := by
        by_cases h0 : i.natAbs = 0
        · rw [h0]; decide
        · exact (Nat.log2_lt h0).mpr (by omega)
      refine ⟨rfl, ?_, Nat.le_refl _, ?_⟩
      · simp only [PyData.showable, decide_eq_true_eq]; omega
      · simp only [shw, niceB]; omega
    | str x =>
      simp only [niceD, Bool.and_eq_true, decide_eq_true_eq] at h
      refine ⟨by simpa only [PyData.canLay0] using h.2, rfl, Nat.le_refl _, ?_⟩
      simp only [shw, niceB]; omega
    | list xs => simp [niceD] at h
    | tuple xs => simp [niceD] at h
    | dict xs => simp [niceD] at h
  | succ k ih =>
    intro d h
    have hm := niceB_mono (k + 1)
    have key : ∀ xs : List PyData, xs.length ≤ 12 → xs.all (niceD k) = true → PyData.canLayAll0 xs = true ∧ PyData.showableAll xs = true ∧ PyData.depthAll xs ≤ k ∧ shwAll xs ≤ 12 * (niceB k + 2) := fun xs hl ha => by
      rw [List.all_eq_true] at ha
      have h := fun x hx => ih x (ha x hx)
      refine ⟨layAll_all fun x hx => (h x hx).1, showAll_all fun x hx => (h x hx).2.1, depAll_all fun x hx => (h x hx).2.2.1, Nat.le_trans (shwAll_all fun x hx => (h x hx).2.2.2) (Nat.mul_le_mul_right _ hl)⟩
    cases d with
    | none => exact ⟨rfl, rfl, Nat.zero_le _, Nat.le_trans (by decide) hm⟩
    | bool b => exact ⟨rfl, rfl, Nat.zero_le _, Nat.le_trans (shw_bool b) hm⟩
    | int i =>
      have h : i.natAbs ≤ 1000 := of_decide_eq_true h
      have hlog : i.natAbs.log2 < 11 := by
        by_cases h0 : i.natAbs = 0
        · rw [h0]; decide
        · exact (Nat.log2_lt h0).mpr (by omega)
      refine ⟨rfl, ?_, Nat.zero_le _, Nat.le_trans ?_ hm⟩
      · simp only [PyData.showable, decide_eq_true_eq]; omega
      · simp only [shw]; omega
    | str x =>
      simp only [niceD, Bool.and_eq_true, decide_eq_true_eq] at h
      refine ⟨by simpa only [PyData.canLay0] using h.2, rfl, Nat.zero_le _, Nat.le_trans ?_ hm⟩
      simp only [shw]; omega
    | list xs =>
      simp only [niceD, Bool.and_eq_true, decide_eq_true_eq] at h
      obtain ⟨h1, h2, h3, h4⟩ := key xs h.1 h.2
      refine ⟨by simpa only [PyData.canLay0] using h1, by simpa only [PyData.showable] using h2, by simp only [PyData.depth]; omega, ?_⟩
      simp only [shw, niceB]; omega
    | tuple xs =>
      simp only [niceD, Bool.and_eq_true, decide_eq_true_eq] at h
      obtain ⟨h1, h2, h3, h4⟩ := key xs h.1 h.2
      refine ⟨by simpa only [PyData.canLay0] using h1, by simpa only [PyData.showable] using h2, by simp only [PyData.depth]; omega, ?_⟩
      simp only [shw, niceB]; omega
    | dict xs => simp [niceD] at h
theorem niceD_mono : ∀ (k : Nat) (d : PyData), niceD k d = true → niceD (k + 1) d = true := by
  intro k
  induction k with
  | zero =>
    intro d h
    cases d <;> first | exact h | simp [niceD] at h
  | succ k ih =>
    intro d h
    cases d <;> first | exact h | skip
    · simp only [niceD, Bool.and_eq_true, List.all_eq_true] at h ⊢
      exact ⟨h.1, fun x hx => ih x (h.2 x hx)⟩
    · simp only [niceD, Bool.and_eq_true, List.all_eq_true] at h ⊢
      exact ⟨h.1, fun x hx => ih x (h.2 x hx)⟩
def odds1 (m p r : Int) (l : List Int) (g : Option (Int × Int)) : List PyData := [.tuple (il l).reverse, .tuple ((il l).take (-1 + (l.length : Int)).toNat), .tuple (il l ++ [.int p]), .tuple (il l ++ [.int m]), .list (il l), .tuple (rgD 0 r), .none, .tuple (il l ++ (il l).take 1), .tuple (List.replicate l.length [.bool true]).flatten].map fun x => .tuple [.int p, x, goneD g]
def odds2 (p : Int) (l : List Int) : List PyData := [.none, .tuple [.int 0, .int 1], .tuple ((il l).take 2), .tuple ((il l).reverse.take 2), .int (l.headD 0), .list [.int 0, .int 1], .tuple [.int 0, .int 1, .int 2], .tuple [.int p, .int 0]].map fun x => .tuple [.int p, .tuple (il l), x]
def odds3 (m p : Int) (l : List Int) (g : Option (Int × Int)) : List PyData := [.int ((p + 1).fmod m), .int m, .int (-1), .bool true, .none, .tuple [.int p]].map fun x => .tuple [x, .tuple (il l), goneD g]
def odds4 (p : Int) (l : List Int) (g : Option (Int × Int)) (x0 : PyData) : List PyData := [.tuple [.int p, .tuple (il l)], .list [.int p, .tuple (il l), goneD g], .tuple [.int p, .tuple (il l), goneD g, .int 0], .none, x0]
def found0 (R : List PyData) : List PyData := [.list R, .tuple R, .list R.reverse, .list (R.take (-1 + (R.length : Int)).toNat), .list (R ++ R.take 1), .list (R.tail ++ R.take 1), .list [], .none, .int 0, .str (Str.ofString "x"), .dict []]
def oddsA (m p r : Int) (l : List Int) (g : Option (Int × Int)) (x0 : PyData) : List PyData := odds1 m p r l g ++ odds2 p l ++ odds3 m p l g ++ odds4 p l g x0
def bentL (m p r : Int) (l : List Int) (g : Option (Int × Int)) (x0 : PyData) (R : List PyData) : List PyData := found0 R ++ (oddsA m p r l g x0).map fun x => .list (R.take r.toNat ++ [x] ++ R.drop (r + 1).toNat)
theorem idx_h0 {l : List Int} : idxD (.tuple (il l ++ [.int 0, .int 0])) (.int 0) = some (.int (l.headD 0)) := by
  cases l with
  | nil => rfl
  | cons a r =>
    have : (0 : Int) < (r.length : Int) + 2 + 1 := by omega
    simp [idxD, atD, L2.ixN, this]
theorem odds1_len (m p r : Int) (l : List Int) (g : Option (Int × Int)) : (odds1 m p r l g).length = 9 := by simp [odds1]
theorem odds2_len (p : Int) (l : List Int) : (odds2 p l).length = 8 := by simp [odds2]
theorem odds3_len (m p : Int) (l : List Int) (g : Option (Int × Int)) : (odds3 m p l g).length = 6 := by simp [odds3]
theorem e_bent {m : Int} (hm : 1 ≤ m ∧ m ≤ 6) {R : List PyData} (hl : (R.length : Int) = m) {p r : Int} {l : List Int} {g : Option (Int × Int)} (hl3 : l.length ≤ 3) {st st1 : Pot} (hr0 : 0 ≤ r) (hr1 : r < m) (e1 : F15.sem [.pot, .d (.int m)] st = .ok (.d (.int r)) st1) (hidx : idxD (.list R) (.int r) = some (.tuple [.int p, .tuple (il l), goneD g])) {x0 : PyData} (hx0 : idxD (.list R) (.int 0) = some x0) : F25.sem [.pot, .d (.int m), .d (.list R)] st = .ok (.d (.list (bentL m p r l g x0 R))) st1 := by
  rw [s_F25]
  have hsz : ∀ n : Nat, n ≤ 1000 → n ≤ sz := fun n h => by show _ ≤ 16777216; omega
  have hR : R.length ≤ 6 := by omega
  have z1 := hsz (R.length + min 1 R.length) (by omega)
  have z2 := hsz (R.length - 1 + min 1 R.length) (by omega)
  have z3 := hsz (l.length + 1) (by omega)
  have z4 := hsz (l.length + min 1 l.length) (by omega)
  have z5 := hsz (l.length + 2) (by omega)
  have hlt : (l.length : Int) ≤ 1000 := by omega
  have hm0 : ¬ m = 0 := by omega
  have hr1' : 0 ≤ r + 1 := by omega
  have y1 : (odds1 m p r l g).length + (odds2 p l).length ≤ sz := by rw [odds1_len, odds2_len]; decide
  have y2 : (odds1 m p r l g).length + (odds2 p l).length + (odds3 m p l g).length ≤ sz := by rw [odds1_len, odds2_len, odds3_len]; decide
  have y3 : (odds1 m p r l g).length + (odds2 p l).length + (odds3 m p l g).length + 5 ≤ sz := by rw [odds1_len, odds2_len, odds3_len]; decide
  have y2' : (odds1 m p r l g).length + ((odds2 p l).length + (odds3 m p l g).length) ≤ sz := by omega
  have y3' : (odds1 m p r l g).length + ((odds2 p l).length + (odds3 m p l g).length) + 5 ≤ sz := by omega
  have y3'' : (odds1 m p r l g).length + ((odds2 p l).length + ((odds3 m p l g).length + 5)) ≤ sz := by omega
  simp [run_eq, b__law_bent, callF, e1, isPot, hidx, bindT, revD, z1, z2, z3, z4, z5, rgR_to st1 (n := r) (by omega)]
  rw [lc_all (xs := [.tuple (il l).reverse, .tuple ((il l).take (-1 + (l.length : Int)).toNat), .tuple (il l ++ [.int p]), .tuple (il l ++ [.int m]), .list (il l), .tuple (rgD 0 r), .none, .tuple (il l ++ (il l).take 1), .tuple (List.replicate l.length [.bool true]).flatten]) (k := false) (g := fun x => .tuple [.int p, x, goneD g]) (by
    simp [revD, z1, z2, z3, z4, z5, rgR_to st1 (n := r) (by omega), hlt]) (fun x hx => by simp [lcTurn, bindT, blkS, wipeS, dropF])]
  rw [show List.map (fun x => PyData.tuple [.int p, x, goneD g]) _ = odds1 m p r l g from rfl]
  simp [ex_extd]
  rw [lc_all (xs := [.none, .tuple [.int 0, .int 1], .tuple ((il l).take 2), .tuple ((il l).reverse.take 2), .int (l.headD 0), .list [.int 0, .int 1], .tuple [.int 0, .int 1, .int 2], .tuple [.int p, .int 0]]) (k := false) (g := fun x => .tuple [.int p, .tuple (il l), x]) (by
    simp [revD, z5, idx_h0, isPot]) (fun x hx => by simp [lcTurn, bindT, blkS, wipeS, dropF])]
  rw [show List.map (fun x => PyData.tuple [.int p, .tuple (il l), x]) _ = odds2 p l from rfl]
  simp [ex_extd, y1]
  rw [lc_all (xs := [.int ((p + 1).fmod m), .int m, .int (-1), .bool true, .none, .tuple [.int p]]) (k := false) (g := fun x => .tuple [x, .tuple (il l), goneD g]) (by
    simp [hm0]) (fun x hx => by simp [lcTurn, bindT, blkS, wipeS, dropF])]
  rw [show List.map (fun x => PyData.tuple [x, .tuple (il l), goneD g]) _ = odds3 m p l g from rfl]
  simp [ex_extd, y2, y2', y3, y3', y3'', isPot, hx0]
  have x1 := hsz (min r.toNat R.length + 1) (by omega)
  have x2 := hsz (min r.toNat R.length + 1 + (R.length - (r + 1).toNat)) (by omega)
  have x3 := hsz (min r.toNat R.length + (1 + (R.length - (r + 1).toNat))) (by omega)
  rw [lc_all (xs := oddsA m p r l g x0) (k := true) (g := fun x => .list (R.take r.toNat ++ [x] ++ R.drop (r + 1).toNat)) (by simp [oddsA, odds4]) (fun x hx => by
    simp [lcTurn, bindT, blkS, wipeS, dropF, slcL_to hr0, slcL_from hr1', x1, x2, x3])]
  have x4 : (11 : Nat) + (oddsA m p r l g x0).length ≤ sz := by
    simp only [oddsA, List.length_append, odds1_len, odds2_len, odds3_len]
    exact hsz _ (by simp [odds4])
  simp [x4, bentL, found0]
end PyD
namespace PyD
open PySem PySem.Spec PyProof.Rows L2
theorem nice_t {k : Nat} {xs : List PyData} (h1 : xs.length ≤ 12) (h2 : ∀ x ∈ xs, niceD k x = true) : niceD (k + 1) (.tuple xs) = true := by
  simp only [niceD, Bool.and_eq_true, decide_eq_true_eq, List.all_eq_true]; exact ⟨h1, h2⟩
theorem nice_l {k : Nat} {xs : List PyData} (h1 : xs.length ≤ 12) (h2 : ∀ x ∈ xs, niceD k x = true) : niceD (k + 1) (.list xs) = true := by
  simp only [niceD, Bool.and_eq_true, decide_eq_true_eq, List.all_eq_true]; exact ⟨h1, h2⟩
theorem nice_i {k : Nat} {i : Int} (h : -1 ≤ i ∧ i ≤ 10) : niceD k (.int i) = true := by
  cases k <;> (simp only [niceD, decide_eq_true_eq]; omega)
theorem nice_n {k : Nat} : niceD k .none = true := by cases k <;> rfl
theorem nice_b {k : Nat} {b : Bool} : niceD k (.bool b) = true := by cases k <;> rfl
theorem nice_ints {l : List Int} (h : ∀ t ∈ l, -1 ≤ t ∧ t ≤ 10) {k : Nat} : ∀ x ∈ il l, niceD k x = true := by
  intro x hx
  obtain ⟨t, ht, rfl⟩ := List.mem_map.mp hx
  exact nice_i (h t ht)
theorem nice_g {k : Nat} {g : Option (Int × Int)} (h : ∀ q, g = some q → -1 ≤ q.1 ∧ q.1 ≤ 10 ∧ -1 ≤ q.2 ∧ q.2 ≤ 10) : niceD (k + 1) (goneD g) = true := by
  cases g with
  | none => rfl
  | some q =>
    obtain ⟨a, b, c, d⟩ := h q rfl
    refine nice_t (by simp) ?_
    intro x hx
    simp only [List.mem_cons, List.not_mem_nil, or_false] at hx
    rcases hx with rfl | rfl
    · exact nice_i ⟨a, b⟩
    · exact nice_i ⟨c, d⟩
theorem nice_3 {k : Nat} {a b c : PyData} (ha : niceD k a = true) (hb : niceD k b = true) (hc : niceD k c = true) : niceD (k + 1) (.tuple [a, b, c]) = true := by
  refine nice_t (by simp) ?_
  intro x hx
  simp only [List.mem_cons, List.not_mem_nil, or_false] at hx
  rcases hx with rfl | rfl | rfl <;> assumption
theorem nice_odds {m p r : Int} {l : List Int} {g : Option (Int × Int)} {x0 : PyData} (hm : 1 ≤ m ∧ m ≤ 6) (hp : 0 ≤ p ∧ p < m) (hr : 0 ≤ r ∧ r < m) (hl : l.length ≤ 3) (ht : ∀ t ∈ l, -1 ≤ t ∧ t ≤ 10) (hg : ∀ q, g = some q → -1 ≤ q.1 ∧ q.1 ≤ 10 ∧ -1 ≤ q.2 ∧ q.2 ≤ 10) (h0 : niceD 2 x0 = true) : ∀ x ∈ oddsA m p r l g x0, niceD 2 x = true := by
  have hpi : ∀ {k}, niceD k (.int p) = true := nice_i (by omega)
  have hmi : ∀ {k}, niceD k (.int m) = true := nice_i (by omega)
  have htl : ∀ {k}, niceD (k + 1) (.tuple (il l)) = true := nice_t (by simp; omega) (nice_ints ht)
  have hgo : ∀ {k}, niceD (k + 1) (goneD g) = true := nice_g hg
  intro x hx
  simp only [oddsA, List.mem_append] at hx
  rcases hx with ((hx | hx) | hx) | hx
  · obtain ⟨y, hy, rfl⟩ := List.mem_map.mp hx
    refine nice_3 hpi ?_ hgo
    simp only [List.mem_cons, List.not_mem_nil, or_false] at hy
    rcases hy with rfl | rfl | rfl | rfl | rfl | rfl | rfl | rfl | rfl
    · exact nice_t (by simp; omega) (fun x hx => nice_ints ht x (List.mem_reverse.mp hx))
    · exact nice_t (by simp; omega) (fun x hx => nice_ints ht x (List.mem_of_mem_take hx))
    · refine nice_t (by simp; omega) (fun x hx => ?_)
      rcases List.mem_append.mp hx with hx | hx
      · exact nice_ints ht x hx
      · rw [List.mem_singleton.mp hx]; exact hpi
    · refine nice_t (by simp; omega) (fun x hx => ?_)
      rcases List.mem_append.mp hx with hx | hx
      · exact nice_ints ht x hx
      · rw [List.mem_singleton.mp hx]; exact hmi
    · exact nice_l (by simp; omega) (nice_ints ht)
    · rw [rgD_il]
      exact nice_t (by simp [rgI_len]; omega) (nice_ints fun t h => by have := mem_rgI.mp h; omega)
    · exact nice_n
    · refine nice_t (by simp; omega) (fun x hx => ?_)
      rcases List.mem_append.mp hx with hx | hx
      · exact nice_ints ht x hx
      · exact nice_ints ht x (List.mem_of_mem_take hx)
    · refine nice_t ?_ (fun x hx => ?_)
      · simp; omega
      · simp at hx
        rw [hx.2]; exact nice_b
  · obtain ⟨y, hy, rfl⟩ := List.mem_map.mp hx
    refine nice_3 hpi htl ?_
    simp only [List.mem_cons, List.not_mem_nil, or_false] at hy
    rcases hy with rfl | rfl | rfl | rfl | rfl | rfl | rfl | rfl
    · exact nice_n
    · rfl
    · exact nice_t (by simp; omega) (fun x hx => nice_ints ht x (List.mem_of_mem_take hx))
    · exact nice_t (by simp; omega) (fun x hx => nice_ints ht x (List.mem_reverse.mp (List.mem_of_mem_take hx)))
    · refine nice_i ?_
      cases l with
      | nil => simp
      | cons a r => exact ht a (List.mem_cons_self ..)
    · rfl
    · rfl
    · refine nice_t (by simp) ?_
      intro x hx
      simp only [List.mem_cons, List.not_mem_nil, or_false] at hx
      rcases hx with rfl | rfl
      · exact hpi
      · rfl
  · obtain ⟨y, hy, rfl⟩ := List.mem_map.mp hx
    refine nice_3 ?_ htl hgo
    simp only [List.mem_cons, List.not_mem_nil, or_false] at hy
    rcases hy with rfl | rfl | rfl | rfl | rfl | rfl
    · refine nice_i ?_
      rw [Int.fmod_eq_emod_of_nonneg _ (by omega)]
      have h1 := Int.emod_nonneg (p + 1) (show m ≠ 0 by omega)
      have h2 := Int.emod_lt_of_pos (p + 1) (show 0 < m by omega)
      omega
    · exact hmi
    · rfl
    · rfl
    · rfl
    · refine nice_t (by simp) ?_
      intro x hx
      rw [List.mem_singleton.mp hx]; exact hpi
  · simp only [odds4, List.mem_cons, List.not_mem_nil, or_false] at hx
    rcases hx with rfl | rfl | rfl | rfl | rfl
    · refine nice_t (by simp) ?_
      intro x hx
      simp only [List.mem_cons, List.not_mem_nil, or_false] at hx
      rcases hx with rfl | rfl
      · exact hpi
      · exact htl
    · refine nice_l (by simp) ?_
      intro x hx
      simp only [List.mem_cons, List.not_mem_nil, or_false] at hx
      rcases hx with rfl | rfl | rfl
      · exact hpi
      · exact htl
      · exact hgo
    · refine nice_t (by simp) ?_
      intro x hx
      simp only [List.mem_cons, List.not_mem_nil, or_false] at hx
      rcases hx with rfl | rfl | rfl | rfl
      · exact hpi
      · exact htl
      · exact hgo
      · rfl
    · rfl
    · exact h0
/-- a value of a turn -/
def Nv (v : PyData) : Prop := niceD 3 v = true ∨ v = .dict []
theorem nice_bent {m p r : Int} {l : List Int} {g : Option (Int × Int)} {x0 : PyData} {R : List PyData} (hm : 1 ≤ m ∧ m ≤ 6) (hp : 0 ≤ p ∧ p < m) (hr : 0 ≤ r ∧ r < m) (hl : l.length ≤ 3) (ht : ∀ t ∈ l, -1 ≤ t ∧ t ≤ 10) (hg : ∀ q, g = some q → -1 ≤ q.1 ∧ q.1 ≤ 10 ∧ -1 ≤ q.2 ∧ q.2 ≤ 10) (hR : ∀ x ∈ R, niceD 2 x = true) (hRl : R.length ≤ 6) (h0 : x0 ∈ R) : ∀ v ∈ bentL m p r l g x0 R, Nv v := by
  intro v hv
  simp only [bentL, List.mem_append] at hv
  rcases hv with hv | hv
  · simp only [found0, List.mem_cons, List.not_mem_nil, or_false] at hv
    rcases hv with rfl | rfl | rfl | rfl | rfl | rfl | rfl | rfl | rfl | rfl | rfl
    · exact .inl (nice_l (by omega) hR)
    · exact .inl (nice_t (by omega) hR)
    · exact .inl (nice_l (by simp; omega) fun x hx => hR x (List.mem_reverse.mp hx))
    · exact .inl (nice_l (by simp; omega) fun x hx => hR x (List.mem_of_mem_take hx))
    · refine .inl (nice_l (by simp; omega) fun x hx => ?_)
      rcases List.mem_append.mp hx with hx | hx
      · exact hR x hx
      · exact hR x (List.mem_of_mem_take hx)
    · refine .inl (nice_l (by simp; omega) fun x hx => ?_)
      rcases List.mem_append.mp hx with hx | hx
      · exact hR x (List.mem_of_mem_tail hx)
      · exact hR x (List.mem_of_mem_take hx)
    · exact .inl rfl
    · exact .inl rfl
    · exact .inl rfl
    · exact .inl (by kernel_rfl)
    · exact .inr rfl
  · obtain ⟨y, hy, rfl⟩ := List.mem_map.mp hv
    refine .inl (nice_l (by simp; omega) fun x hx => ?_)
    simp only [List.mem_append, List.mem_singleton] at hx
    rcases hx with (hx | rfl) | hx
    · exact hR x (List.mem_of_mem_take hx)
    · exact nice_odds hm hp hr hl ht hg (hR _ h0) _ hy
    · exact hR x (List.mem_of_mem_drop hx)
theorem nice_short {v : PyData} (h : Nv v) : ∀ xs, seqOf v = some xs → ∀ x ∈ xs, ∀ p tl c, x = .tuple [p, .tuple tl, c] → tl.length < 64 := by
  rcases h with h | rfl
  · intro xs hs x hx p tl c e
    have hx2 : niceD 2 x = true := by
      cases v <;> first | (simp at hs; done) | skip
      · simp at hs; subst hs
        simp only [niceD, Bool.and_eq_true, List.all_eq_true] at h
        exact h.2 x hx
      · simp at hs; subst hs
        simp only [niceD, Bool.and_eq_true, List.all_eq_true] at h
        exact h.2 x hx
    subst e
    simp only [niceD, Bool.and_eq_true, List.all_cons, decide_eq_true_eq] at hx2
    omega
  · intro xs hs
    simp at hs
end PyD
namespace PyD
open PySem PySem.Spec PyProof.Rows L2
theorem tryV_ok {G : GT} {b : Sms} {c i j : Nat} {t : Str} {ρ : List Sl} {st st' : Pot} {f : Fl} (h : exs G b ρ st = .ok f st') : ex G (.tryV b c i j t) ρ st = .ok f st' := by
  simp only [ex, h]
theorem tryV_exc {G : GT} {b : Sms} {c c' i j : Nat} {t z : Str} {ρ : List Sl} {st st' : Pot} {d : PyData} (h : exs G b ρ st = .exc c' (some d) st') (hs : subOf G c' c = some true) (hr : biD .repr [d] = some (.str z)) : ex G (.tryV b c i j t) ρ st = .ok (.nx ((List.replicate ρ.length Sl.un).set j (.v (.d (.list [.str t, .str z]))))) st' := by
  simp only [ex, h, hs, hr]
@[simp] theorem ex_lamApp {G : GT} {i k : Nat} {ρ : List Sl} {st : Pot} : ex G (.lamApp i k) ρ st = match ρ[i]? with
    | some (.lamL ks) => if ks.length < 1000 then .ok (.nx (ρ.set i (.lamL (ks ++ [k])))) st else .bad
    | _ => .bad := by simp only [ex] <;> rfl
theorem ev_heard {G : GT} {f i : Nat} {es : Exs} {ρ : List Sl} {st : Pot} : ev G (.heard f i es) ρ st = match ρ[i]? with
    | some (.lamL ks) => (heardGo G f (fun k st => lamOf (evNth G es k (ρ.map dropL) st)) ks [] st).bind fun ds st => okK (some (.list ds)) st
    | _ => .bad := by simp only [ev] <;> rfl
theorem e_heard_told {f : Lm} {d : PyData} {st : Pot} (h : f st = .ok d st) : F26.sem [.lam f] st = .ok (.d (.list [.str "told", d])) st := by
  rw [s_F26]
  simp [run_eq, b__law_heard, h]
  rw [tryV_ok (f := .nx [.v (.lam f), .v (.d (.list [.str "told", d])), .un]) (st' := st) (by simp [h])]
  simp
theorem e_heard_row {f : Lm} {d : PyData} {st : Pot} {z : Str} (h : f st = .exc 2 (some d) st) (hz : biD .repr [d] = some (.str z)) : F26.sem [.lam f] st = .ok (.d (.list [.str "row", .str z])) st := by
  rw [s_F26]
  simp [run_eq, b__law_heard, h]
  rw [tryV_exc (c' := 2) (d := d) (z := z) (st' := st) (by simp [h]) (by kernel_rfl) hz]
  simp
def lateD : Option (List (Int × Int)) → PyData → PyData
  | some ps, _ => .list [.str "told", optD (some ps)]
  | none, v => .list [.str "row", .str v.shown]
theorem late_ok {X : PyData} (h : rp 3 X ∧ shw X ≤ 800000) : rp 4 (.list [X, X]) ∧ shw (.list [X, X]) ≤ sz := by
  obtain ⟨⟨h1, h2, h3⟩, h4⟩ := h
  refine ⟨⟨?_, ?_, ?_⟩, ?_⟩
  · simp only [PyData.canLay0, PyData.canLayAll0, h1, Bool.and_self]
  · simp only [PyData.showable, PyData.showableAll, h2, Bool.and_self]
  · simp only [PyData.depth, PyData.depthAll]; omega
  · simp only [shw, shwAll]
    show _ ≤ 16777216
    omega
theorem foldB_len {m : Int} (hm : m ≤ 7) : ∀ (xs : List PyData) (ts : List Int) (ps qs : List (Int × Int)), Jn m ts ps → foldB m xs ts ps = some qs → qs.length ≤ ps.length + 3 * xs.length
  | [], ts, ps, qs, hj, h => by cases h; simp
  | x :: r, ts, ps, qs, hj, h => by
    rw [foldB] at h
    obtain ⟨s, h1, h2⟩ := Option.bind_eq_some_iff.mp h
    obtain ⟨hj', hl⟩ := Jn_step hm hj h1
    have := foldB_len hm r _ _ qs hj' h2
    have hk := keepP_len s.2.2 ps
    simp at this ⊢
    omega
theorem built_len {m : Int} (hm : 1 ≤ m ∧ m ≤ 6) {v : PyData} {qs : List (Int × Int)} (h : built m v = some qs) : qs.length ≤ 18 := by
  obtain ⟨xs, h1, h2⟩ := Option.bind_eq_some_iff.mp h
  split at h2
  · have := foldB_len (by omega) xs [] [] qs (Jn_nil m) h2
    simp at this
    omega
  · cases h2
theorem ch_nv {v : PyData} (h : Nv v) : Ch v.shown ∧ v.shown.length ≤ 40000 := by
  rcases h with h | rfl
  · obtain ⟨h1, h2, h3, h4⟩ := niceD_ok 3 v h
    exact ⟨ch_shown h1, Nat.le_trans (shown_le h1) (Nat.le_trans h4 (by decide))⟩
  · have e : (PyData.dict []).shown = Str.ofString "{}" := by rfl
    rw [e]
    exact ⟨ch_of _, by decide⟩
theorem strOk_ch {x : Str} (h : Ch x) : PyData.strOk x = true := by
  unfold PyData.strOk
  rw [Array.all_eq_true']
  intro c hc
  have := h c (by simpa using hc)
  simp only [decide_eq_true_eq]
  omega
theorem rp_late {m : Int} (hm : 1 ≤ m ∧ m ≤ 6) {v : PyData} (hv : Nv v) : rp 3 (lateD (built m v) v) ∧ shw (lateD (built m v) v) ≤ 800000 := by
  cases hB : built m v with
  | none =>
    obtain ⟨h1, h2⟩ := ch_nv hv
    have h3 := strOk_ch h1
    have h4 : PyData.strOk "row" = true := by kernel_rfl
    have h5 : ("row" : Str).length = 3 := by rfl
    refine ⟨⟨?_, ?_, ?_⟩, ?_⟩
    · simp only [lateD, PyData.canLay0, PyData.canLayAll0, h3, h4, Bool.and_self]
    · simp only [lateD, PyData.showable, PyData.showableAll, Bool.and_self]
    · simp only [lateD, PyData.depth, PyData.depthAll]; decide
    · simp only [lateD, shw, shwAll, h5]; omega
  | some qs =>
    have hr := built_RP (show m ≤ 7 by omega) hB
    have hl := built_len hm hB
    have hn : ∀ x ∈ pl (sortP qs), niceD 1 x = true := by
      intro x hx
      obtain ⟨q, hq, rfl⟩ := List.mem_map.mp hx
      have := hr.1 q hq
      exact nice_g (g := some q) (fun q' e => by cases e; omega)
    have ho := fun x hx => niceD_ok 1 x (hn x hx)
    have h4 : PyData.strOk "told" = true := by kernel_rfl
    have h5 : ("told" : Str).length = 4 := by rfl
    have h6 := layAll_all fun x hx => (ho x hx).1
    have h7 := showAll_all fun x hx => (ho x hx).2.1
    have h8 := depAll_all fun x hx => (ho x hx).2.2.1
    have h9 := shwAll_all fun x hx => (ho x hx).2.2.2
    have h10 : (pl (sortP qs)).length ≤ 18 := by rw [List.length_map, (sortP_perm qs).length_eq]; exact hl
    have h11 : shwAll (pl (sortP qs)) ≤ 18 * (niceB 1 + 2) := Nat.le_trans h9 (Nat.mul_le_mul_right _ h10)
    have h12 : 18 * (niceB 1 + 2) ≤ 6000 := by decide
    refine ⟨⟨?_, ?_, ?_⟩, ?_⟩
    · simp only [lateD, optD, PyData.canLay0, PyData.canLayAll0, h6, h4, Bool.and_self]
    · simp only [lateD, optD, PyData.showable, PyData.showableAll, h7, Bool.and_self]
    · simp only [lateD, optD, PyData.depth, PyData.depthAll]; omega
    · simp only [lateD, optD, shw, shwAll, h5]; omega
@[simp] theorem c_27_26 (as st) : callG G27 26 as st = callF F26 as st := callG_at (by kernel_rfl) as st
theorem e_value {m : Int} (hm : 1 ≤ m ∧ m ≤ 6) {ps : List (Int × Int)} (hps : RP m ps) {v : PyData} (hv : Nv v) (st : Pot) : F27.sem [.d (.int m), .d (.tuple (pl ps)), .d v] st = .ok (.d (.bool true)) st := by
  rw [s_F27]
  have e1 := e_lbuilt m (by omega) v (nice_short hv) st
  have e2 := e_is_row (by omega) v st (m := m)
  have e3 := e_does_build (by omega) hps v st
  have e4 := e_row_pairs (m := m) (by omega) v st
  have hsame : ∀ q1 q2 : Bool, ∀ st, F18.sem [.d (.list [.list [.bool q1, .bool q2], .list [.bool q1, .bool q2]]), .d (.list [.list [.bool q1, .bool q2], .list [.bool q1, .bool q2]])] st = .ok (.d (.bool true)) st := fun q1 q2 st => by
    obtain ⟨h1, h2, h3, h4⟩ := niceD_ok 2 (.list [.list [.bool q1, .bool q2], .list [.bool q1, .bool q2]]) (by simp [niceD])
    exact e_same (n := 2) ⟨h1, h2, h3⟩ (by decide) (Nat.le_trans h4 (by decide)) st
  have hrep : biD .repr [v] = some (.str v.shown) := by
    rcases hv with h | rfl
    · obtain ⟨h1, h2, h3, h4⟩ := niceD_ok 3 v h
      exact bi_repr (n := 3) ⟨h1, h2, h3⟩ (by decide) (Nat.le_trans h4 (by decide))
    · rfl
  have hlate : ∀ st, F18.sem [.d (.list [lateD (built m v) v, lateD (built m v) v]), .d (.list [lateD (built m v) v, lateD (built m v) v])] st = .ok (.d (.bool true)) st := fun st => by
    obtain ⟨h1, h2⟩ := late_ok (rp_late hm hv)
    exact e_same (n := 4) h1 (by decide) h2 st
  simp only [eqB] at e3
  generalize hq : PyData.eqv (optD (built m v)) (.tuple (pl ps)) = q2 at e3
  cases hB : built m v with
  | none =>
    rw [hB] at e1 e2 e4 hq hlate
    have hq2 : q2 = false := by rw [← hq]; rfl
    subst hq2
    have hh : ∀ f : Lm, f st = .exc 2 (some v) st → F26.sem [.lam f] st = .ok (.d (.list [.str "row", .str v.shown])) st := fun f h => e_heard_row h hrep
    simp only [lateD] at hlate
    simp [run_eq, b__law_value_right, callF, e1, e2, e3, isN_opt, shp_opt, permd, hsame, hrep, ev_heard, heardGo, isCl]
    rw [hh _ (by simp [ls__law_value_right, evNth, lamOf, dropL, callF, e4])]
    simp
    rw [hh _ (by simp [ls__law_value_right, evNth, lamOf, dropL, callF, e4, permd])]
    simp
    rw [hlate]
    simp
  | some qs =>
    rw [hB] at e1 e2 e4 hq hlate
    simp only [lateD] at hlate
    have hh : ∀ f : Lm, f st = .ok (optD (some qs)) st → F26.sem [.lam f] st = .ok (.d (.list [.str "told", optD (some qs)])) st := fun f h => e_heard_told h
    simp [run_eq, b__law_value_right, callF, e1, e2, e3, isN_opt, shp_opt, permd, hsame, hq, ev_heard, heardGo, isCl]
    rw [hh _ (by simp [ls__law_value_right, evNth, lamOf, dropL, callF, e4])]
    simp
    rw [hh _ (by simp [ls__law_value_right, evNth, lamOf, dropL, callF, e4, permd])]
    simp
    rw [hlate]
    simp
end PyD
namespace PyD
open PySem PySem.Spec PyProof.Rows L2
theorem nice_step {m : Int} (hm : 1 ≤ m ∧ m ≤ 6) {s : Step} (h : niceS m s) : niceD 2 (stD s) = true := by
  obtain ⟨h1, h2, h3, h4, h5⟩ := h
  exact nice_3 (nice_i (by omega)) (nice_t (by simp; omega) (nice_ints fun t ht => by have := h4 t ht; omega)) (nice_g fun q hq => by have := h5 q hq; omega)
theorem nice_row {m : Int} (hm : 1 ≤ m ∧ m ≤ 6) {ss : List Step} (hl : (ss.length : Int) = m) (h : ∀ s ∈ ss, niceS m s) : Nv (.list (ss.map stD)) := by
  refine .inl (nice_l (by simp; omega) ?_)
  intro x hx
  obtain ⟨s, hs, rfl⟩ := List.mem_map.mp hx
  exact nice_step hm (h s hs)
theorem bent_ok {m : Int} (hm : 1 ≤ m ∧ m ≤ 6) {ss : List Step} (hl : (ss.length : Int) = m) (hs : ∀ s ∈ ss, niceS m s) {st : Pot} (hp : PI st) : ∃ (vs : List PyData) (st' : Pot), PI st' ∧ (∀ v ∈ vs, Nv v) ∧ F25.sem [.pot, .d (.int m), .d (.list (ss.map stD))] st = .ok (.d (.list vs)) st' := by
  obtain ⟨r, st1, e1, hr0, hr1, hp1⟩ := e_draw hp (n := m) (by omega)
  have hrl : r < ss.length := by omega
  obtain ⟨s, hsm, hidx⟩ : ∃ s ∈ ss, idxD (.list (ss.map stD)) (.int r) = some (stD s) := ⟨_, List.getElem_mem _, idx_l hr0 hrl⟩
  obtain ⟨s0, hsm0, hidx0⟩ : ∃ s ∈ ss, idxD (.list (ss.map stD)) (.int 0) = some (stD s) := ⟨_, List.getElem_mem _, idx_l (by decide) (by omega)⟩
  obtain ⟨n1, n2, n3, n4, n5⟩ := hs s hsm
  refine ⟨_, st1, hp1, ?_, e_bent hm (by simpa using hl) n3 hr0 hr1 e1 hidx hidx0⟩
  refine nice_bent hm ⟨n1, n2⟩ ⟨hr0, hr1⟩ n3 (fun t ht => by have := n4 t ht; omega) (fun q hq => by have := n5 q hq; omega) ?_ (by simp; omega) (List.mem_map_of_mem hsm0)
  intro x hx
  obtain ⟨s, hs', rfl⟩ := List.mem_map.mp hx
  exact nice_step hm (hs s hs')
abbrev rtInner : Sms := (.cons (.ife (.not (.val (.call 27 (.cons (.var 2) (.cons (.var 4) (.cons (.var 6) .nil)))))) (.cons (.ret (.so (.cst (.bool false))))
  .nil) .nil)
  .nil)
abbrev rtTurn : Sms := (.cons (.asg (.nm 2) (.bin .add (.cst (.int 1)) (.call 15 (.cons (.var 0) (.cons (.cst (.int 6)) .nil)))))
  (.cons (.asg (.nm 3) (.call 24 (.cons (.var 0) (.cons (.var 2) .nil))))
  (.cons (.par [(4, false), (5, false)] (.cons (.call 23 (.cons (.var 2) (.cons (.var 3) .nil))) (.cons (.call 24 (.cons (.var 0) (.cons (.var 2) .nil))) .nil)))
  (.cons (.ife (.or (.not (.val (.call 27 (.cons (.var 2) (.cons (.var 4) (.cons (.var 5) .nil)))))) (.not (.val (.call 27 (.cons (.var 2) (.cons (.call 21 (.cons (.var 0) (.cons (.var 2) .nil))) (.cons (.var 3) .nil))))))) (.cons (.ret (.so (.cst (.bool false))))
  .nil) .nil)
  (.cons (.for_ (.nm 6) (.seq (.call 25 (.cons (.var 0) (.cons (.var 2) (.cons (.var 3) .nil))))) rtInner)
  .nil)))))
theorem rt_inner {m : Int} (hm : 1 ≤ m ∧ m ≤ 6) {ps : List (Int × Int)} (hps : RP m ps) {s1 s3 s5 : Sl} {st : Pot} : ∀ (vs : List PyData) (s6 : Sl), (∀ v ∈ vs, Nv v) → ∃ t6, forGo (forTurn G28 (.nm 6) rtInner) vs [.v .pot, s1, .v (.d (.int m)), s3, .v (.d (.tuple (pl ps))), s5, s6] st = .ok (.nx [.v .pot, s1, .v (.d (.int m)), s3, .v (.d (.tuple (pl ps))), s5, t6]) st
  | [], s6, _ => ⟨s6, by simp⟩
  | v :: r, s6, h => by
    have hv := e_value hm hps (h v (List.mem_cons_self ..)) st
    obtain ⟨t6, ih⟩ := rt_inner hm hps (s1 := s1) (s3 := s3) (s5 := s5) (st := st) r (.v (.d v)) fun y hy => h y (List.mem_cons_of_mem _ hy)
    refine ⟨t6, ?_⟩
    rw [← ih]
    simp [forTurn, bindT, rtInner, callF, hv]
theorem rt_turn (x : PyData) (s1 s2 s3 s4 s5 s6 : Sl) {st : Pot} (hp : PI st) : ∃ (t1 t2 t3 t4 t5 t6 : Sl) (st' : Pot), PI st' ∧ forTurn G28 (.nm 1) rtTurn x [.v .pot, s1, s2, s3, s4, s5, s6] st = .ok (.nx [.v .pot, t1, t2, t3, t4, t5, t6]) st' := by
  obtain ⟨r, st1, e1, hr0, hr1, hp1⟩ := e_draw hp (n := 6) (by omega)
  have hm : 1 ≤ 1 + r ∧ 1 + r ≤ 6 := by omega
  obtain ⟨ss, qs, st2, hp2, hl2, hb2, hn2, e2⟩ := e_drawn hm hp1
  have e3 := e_lbuilt (1 + r) (by omega) (.list (ss.map stD)) (nice_short (nice_row hm hl2 hn2)) st2
  rw [hb2] at e3
  have hrp := built_RP (show 1 + r ≤ 7 by omega) hb2
  obtain ⟨so, qo, st3, hp3, hl3, hb3, hn3, e4⟩ := e_drawn hm hp2
  have e5 := e_value hm hrp (nice_row hm hl3 hn3) st3
  obtain ⟨ps, st4, hrp4, hp4, e6⟩ := e_some_pairs hm hp3
  have e7 := e_value hm hrp4 (nice_row hm hl2 hn2) st4
  obtain ⟨vs, st5, hp5, hvs, e8⟩ := bent_ok hm hl2 hn2 hp4
  obtain ⟨t6, e9⟩ := rt_inner hm hrp (s1 := .v (.d x)) (s3 := .v (.d (.list (ss.map stD)))) (s5 := .v (.d (.list (so.map stD)))) (st := st5) vs s6 hvs
  refine ⟨.v (.d x), .v (.d (.int (1 + r))), .v (.d (.list (ss.map stD))), .v (.d (.tuple (pl (sortP qs)))), .v (.d (.list (so.map stD))), t6, st5, hp5, ?_⟩
  simp only [optD] at e3
  simp [forTurn, bindT, rtTurn, callF, e1, e2, e3, e4, e5, e6, e7, e8, parGo]
  rw [e9]
  simp
theorem rt_loop : ∀ (xs : List PyData) (s1 s2 s3 s4 s5 s6 : Sl) (st : Pot), PI st → ∃ (t1 t2 t3 t4 t5 t6 : Sl) (st' : Pot), PI st' ∧ forGo (forTurn G28 (.nm 1) rtTurn) xs [.v .pot, s1, s2, s3, s4, s5, s6] st = .ok (.nx [.v .pot, t1, t2, t3, t4, t5, t6]) st'
  | [], s1, s2, s3, s4, s5, s6, st, hp => ⟨s1, s2, s3, s4, s5, s6, st, hp, by simp⟩
  | x :: r, s1, s2, s3, s4, s5, s6, st, hp => by
    obtain ⟨t1, t2, t3, t4, t5, t6, st1, hp1, e1⟩ := rt_turn x s1 s2 s3 s4 s5 s6 hp
    obtain ⟨u1, u2, u3, u4, u5, u6, st2, hp2, e2⟩ := rt_loop r t1 t2 t3 t4 t5 t6 st1 hp1
    refine ⟨u1, u2, u3, u4, u5, u6, st2, hp2, ?_⟩
    rw [forGo_cons, e1, forK_nx, e2]
theorem e_right {st : Pot} (hp : PI st) : ∃ st', F28.sem [.pot] st = .ok (.d (.bool true)) st' := by
  obtain ⟨t1, t2, t3, t4, t5, t6, st', hp', e1⟩ := rt_loop (rgD 0 3) .un .un .un .un .un .un st hp
  refine ⟨st', ?_⟩
  have hb : b__law_right = .cons (.for_ (.nm 1) (.rng .no (.so (.cst (.int 3)))) rtTurn) (.cons (.ret (.so (.cst (.bool true)))) .nil) := rfl
  rw [s_F28, hb]
  generalize rtTurn = rt at e1
  simp [run_eq, rgR_to st (n := 3) (by decide), e1]
theorem e_pot {ns : List Int} (hl : ns.length ≤ 63) {k : Int} (hk : 0 ≤ k ∧ k ≤ 10) (st : Pot) : ∃ x y : Int, PI (x, y) ∧ F14.sem [.d (.list (il ns)), .d (.int k)] st = .ok (.d (.list [.int x, .int y])) st := by
  have hf : ∀ x y : Int, 0 < y → 0 ≤ x.fmod y ∧ x.fmod y < y := fun x y h => by
    rw [Int.fmod_eq_emod_of_nonneg x (by omega)]
    exact ⟨Int.emod_nonneg _ (by omega), Int.emod_lt_of_pos _ h⟩
  have hpi : ∀ c d : Int, 0 ≤ c → PI (if 1000000000000000000 < c then c - 1000000000000000000 else 0, d.fmod 2147483563 + 1) := fun c d h => by
    have h1 := hf d 2147483563 (by decide)
    refine ⟨?_, by simp only; omega, by simp only; omega⟩
    simp only
    split <;> omega
  have hfk := fits_small (b := k) (by omega)
  have hf1 := fits_small (b := 32783) (by decide)
  have hf2 := fits_small (b := 6715) (by decide)
  have hf3 := fits_small (b := 5833) (by decide)
  have hfc : ∀ c : Int, fits (c.fmod 2147483549) = true := fun c => by
    have h1 := hf c 2147483549 (by decide)
    exact fits_small (by omega)
  rw [s_F14]
  by_cases h : k < ns.length
  · simp [run_eq, b__law_pot, h, isPot, idx_l hk.1 h, hfk, hf1, hf2, hfc]
    exact hpi _ _ (by split <;> omega)
  · simp [run_eq, b__law_pot, h, hfk, hf1, hf2, hf3, hfc]
    exact hpi _ _ (by omega)
theorem ev_potCall {G : GT} {r p : Nat} {es : Exs} {ρ : List Sl} {st : Pot} : ev G (.potCall r p es) ρ st = (evs G es ρ st).bind fun as st => match G.fns[p]?, G.fns[r]? with
    | some P, some R => if as.all isCl = true ∧ as.length = P.ps.length ∧ R.ps.length = 1 ∧ (dats (vals as)).isSome = true then
        match P.sem (vals as) st with
        | .ok (.d (.list [.int x, .int y])) _ => match R.sem [.pot] (x, y) with
          | .ok (.d d) _ => okD d st
          | _ => .bad
        | _ => .bad
      else .bad
    | _, _ => .bad := by simp only [ev] <;> rfl
theorem law_math : ∀ ns : List Int, ns.length ≤ 63 → (∀ z ∈ ns, Builtin.Int.intBits z ≤ 1048576) → ∃ st', F29.sem [.d (.list (ns.map PyData.int))] (0,0) = .ok (.d (.bool true)) st' := by
  intro ns hl _
  refine ⟨(0, 0), ?_⟩
  rw [s_F29]
  have h14 : G29.fns[14]? = some F14 := by kernel_rfl
  have h28 : G29.fns[28]? = some F28 := by kernel_rfl
  obtain ⟨n, hn, hn1⟩ : ∃ n : Int, (if (if (ns.length : Int) < 2 then (ns.length : Int) else 2) > 1 then (if (ns.length : Int) < 2 then (ns.length : Int) else 2) else 1) = n ∧ 1 ≤ n ∧ n ≤ 2 := ⟨_, rfl, by split <;> split at * <;> omega⟩
  simp [run_eq, b_law]
  rw [lc_map (zs := rgI 0 n) (f := .int) (k := false) (fun _ => .bool true)]
  · have h1 : ((rgI 0 n).map fun _ => PyData.bool true) = (rgI 0 n).map fun x => .bool ((fun _ => true) x) := rfl
    simp only [bind_ok', dats_cons, dats_nil, vals_cons, vals_nil, Option.map_some, Option.bind_some]
    rw [h1, bi_all]
    simp
  · have hn' : (if 1 < (if (ns.length : Int) < 2 then (ns.length : Int) else 2) then (if (ns.length : Int) < 2 then (ns.length : Int) else 2) else 1) = n := hn
    simp
    rw [hn', rgR_to _ (by omega)]
    simp [rgD_il]
  · intro k hk
    have hk := mem_rgI.mp hk
    obtain ⟨x, y, hp, e1⟩ := e_pot hl (k := k) (by omega) (0, 0)
    obtain ⟨st', e2⟩ := e_right hp
    simp [lcTurn, bindT, blkS, wipeS, dropF, ev_potCall, h14, h28, e1, e2]
end PyD
namespace PyD
open PySem PySem.Spec PyProof.Rows L2
def top (i : Nat) : Stmt := PySem.Challenge.pw_heldloose_k59_whole_any_values_as_rows_o.main.body.getD i (.Pass ⟨0, 0, 0, 0⟩)
theorem w_is_list {P : Program} {w : World} {K : PySem.W.Frag} {mg : Str → Option Value} {base : Heap} {f : Addr} (cdv : Value) (A : Around) (outer : List Env) (s : Shared) (H : Hp) (E : XK) (T : Tb) (p : Option Addr) (L : Ls) (Fe : Addr → Prop) (W : WX) (wc : ∀ cls d σ σ' H, W cls d σ H → W cls d σ' H) (g : Good ⟨G0, T, p, L, 20⟩ W (cxOf (L2.CX P w) P w K mg base n_is_list "is_list" (defScope (top 1)) f cdv A outer s H E) 3)
    (hp : PassesOwn (model P w) (cxOf (L2.CX P w) P w K mg base n_is_list "is_list" (defScope (top 1)) f cdv A outer s H E).A (cxOf (L2.CX P w) P w K mg base n_is_list "is_list" (defScope (top 1)) f cdv A outer s H E).env (cxOf (L2.CX P w) P w K mg base n_is_list "is_list" (defScope (top 1)) f cdv A outer s H E).xe) : PSs (cxOf (L2.CX P w) P w K mg base n_is_list "is_list" (defScope (top 1)) f cdv A outer s H E) (defBody (top 1)) (rdSs ⟨G0, T, p, L, 20⟩ Fe W K mg b_is_list) := by (
      refine s_cons ?_ ?_; refine s_ret ?_
      refine w_isLT g (w_free g (by exact rfl) (by exact rfl) (by exact rfl) (by exact rfl) (by exact rfl)) (w_free g (by exact rfl) (by exact rfl) (by exact rfl) (by exact rfl) (by exact rfl)) (w_free g (by exact rfl) (by exact rfl) (by exact rfl) (by exact rfl) (by exact rfl)) ?_ (by exact rfl)
      exact r_v g; refine s_nil)
theorem w_is_integer {P : Program} {w : World} {K : PySem.W.Frag} {mg : Str → Option Value} {base : Heap} {f : Addr} (cdv : Value) (A : Around) (outer : List Env) (s : Shared) (H : Hp) (E : XK) (T : Tb) (p : Option Addr) (L : Ls) (Fe : Addr → Prop) (W : WX) (wc : ∀ cls d σ σ' H, W cls d σ H → W cls d σ' H) (g : Good ⟨G1, T, p, L, 20⟩ W (cxOf (L2.CX P w) P w K mg base n_is_integer "is_integer" (defScope (top 2)) f cdv A outer s H E) 3)
    (hp : PassesOwn (model P w) (cxOf (L2.CX P w) P w K mg base n_is_integer "is_integer" (defScope (top 2)) f cdv A outer s H E).A (cxOf (L2.CX P w) P w K mg base n_is_integer "is_integer" (defScope (top 2)) f cdv A outer s H E).env (cxOf (L2.CX P w) P w K mg base n_is_integer "is_integer" (defScope (top 2)) f cdv A outer s H E).xe) : PSs (cxOf (L2.CX P w) P w K mg base n_is_integer "is_integer" (defScope (top 2)) f cdv A outer s H E) (defBody (top 2)) (rdSs ⟨G1, T, p, L, 20⟩ Fe W K mg b_is_integer) := by (
      refine s_cons ?_ ?_; refine s_ret ?_; refine k_and g ?_ ?_
      refine k_isi g (by exact rfl) (by exact rfl) (w_free g (by exact rfl) (by exact rfl) (by exact rfl) (by exact rfl) (by exact rfl)) (w_free g (by exact rfl) (by exact rfl) (by exact rfl) (by exact rfl) (by exact rfl)) ?_ (by exact rfl)
      exact r_v g; refine e_one ?_; refine k_not g ?_
      refine k_isi g (by exact rfl) (by exact rfl) (w_free g (by exact rfl) (by exact rfl) (by exact rfl) (by exact rfl) (by exact rfl)) (w_free g (by exact rfl) (by exact rfl) (by exact rfl) (by exact rfl) (by exact rfl)) ?_ (by exact rfl)
      exact r_v g; refine s_nil)
theorem w_is_position {P : Program} {w : World} {K : PySem.W.Frag} {mg : Str → Option Value} {base : Heap} {f : Addr} (cdv : Value) (A : Around) (outer : List Env) (s : Shared) (H : Hp) (E : XK) (T : Tb) (p : Option Addr) (L : Ls) (Fe : Addr → Prop) (W : WX) (wc : ∀ cls d σ σ' H, W cls d σ H → W cls d σ' H) (g : Good ⟨G2, T, p, L, 20⟩ W (cxOf (L2.CX P w) P w K mg base n_is_position "is_position" (defScope (top 3)) f cdv A outer s H E) 4)
    (hp : PassesOwn (model P w) (cxOf (L2.CX P w) P w K mg base n_is_position "is_position" (defScope (top 3)) f cdv A outer s H E).A (cxOf (L2.CX P w) P w K mg base n_is_position "is_position" (defScope (top 3)) f cdv A outer s H E).env (cxOf (L2.CX P w) P w K mg base n_is_position "is_position" (defScope (top 3)) f cdv A outer s H E).xe) : PSs (cxOf (L2.CX P w) P w K mg base n_is_position "is_position" (defScope (top 3)) f cdv A outer s H E) (defBody (top 3)) (rdSs ⟨G2, T, p, L, 20⟩ Fe W K mg b_is_position) := by (
      refine s_cons ?_ ?_; refine s_ret ?_; refine k_and g ?_ ?_; refine r_f g ?_; refine r_c g ?_ ?_; exact r_v g; refine a_nil g; refine e_one ?_
      refine k_cmp2 (o := Co.le) (o' := Co.lt) g ?_ ?_ ?_ (by exact rfl); refine k_int g; exact r_v g; exact r_v g; refine s_nil)
theorem w_is_pair_of {P : Program} {w : World} {K : PySem.W.Frag} {mg : Str → Option Value} {base : Heap} {f : Addr} (cdv : Value) (A : Around) (outer : List Env) (s : Shared) (H : Hp) (E : XK) (T : Tb) (p : Option Addr) (L : Ls) (Fe : Addr → Prop) (W : WX) (wc : ∀ cls d σ σ' H, W cls d σ H → W cls d σ' H) (g : Good ⟨G3, T, p, L, 20⟩ W (cxOf (L2.CX P w) P w K mg base n_is_pair_of "is_pair_of" (defScope (top 11)) f cdv A outer s H E) 5)
    (hp : PassesOwn (model P w) (cxOf (L2.CX P w) P w K mg base n_is_pair_of "is_pair_of" (defScope (top 11)) f cdv A outer s H E).A (cxOf (L2.CX P w) P w K mg base n_is_pair_of "is_pair_of" (defScope (top 11)) f cdv A outer s H E).env (cxOf (L2.CX P w) P w K mg base n_is_pair_of "is_pair_of" (defScope (top 11)) f cdv A outer s H E).xe) : PSs (cxOf (L2.CX P w) P w K mg base n_is_pair_of "is_pair_of" (defScope (top 11)) f cdv A outer s H E) (defBody (top 11)) (rdSs ⟨G3, T, p, L, 20⟩ Fe W K mg b_is_pair_of) := by (
      refine s_cons ?_ ?_; refine s_if ?_ ?_ ?_; refine t_of ?_; refine q_or ?_ ?_; refine t_not ?_; refine t_val ?_ (fun _ => (by exact rfl))
      refine k_isi g (by exact rfl) (by exact rfl) (w_free g (by exact rfl) (by exact rfl) (by exact rfl) (by exact rfl) (by exact rfl)) (w_free g (by exact rfl) (by exact rfl) (by exact rfl) (by exact rfl) (by exact rfl)) ?_ (by exact rfl)
      exact r_v g; refine q_or ?_ ?_; refine r_t (o := .ne) g ?_ ?_; refine r_b g ?_; refine r_c g ?_ ?_; exact r_v g; refine a_nil g; refine k_int g
      refine q_one_or ?_; refine t_not ?_; refine t_val ?_ (fun _ => (by exact rfl)); refine r_b g ?_; refine r_c g ?_ ?_
      refine w_lc g ?_ (blkOk_by (by kernel_rfl)) (by decide) (fun s H C cl fp g => ?_) (fun s H C cl fp g => ?_) (fun s H C cl fp g => ?_) (fun _ => (by exact rfl))
      refine i_seq g ?_; exact r_v g
      exact pg_name g.nd (by exact rfl) (loc_of (by exact rfl)) (by first | exact .inl (by exact rfl) | exact .inr (by exact rfl)); refine ts_no
      refine r_f g ?_; refine r_c g ?_ ?_; exact r_v g; refine r_c g ?_ ?_; exact r_v g; refine a_nil g; refine a_nil g; refine s_cons ?_ ?_
      refine s_ret ?_; refine k_bool g; refine s_nil; refine s_nil; refine s_cons ?_ ?_; refine s_ret ?_; refine k_cmp (o := Co.lt) g ?_ ?_ (by exact rfl)
      refine r_i g ?_ ?_; exact r_v g; refine k_int g; refine r_i g ?_ ?_; exact r_v g; refine k_int g; refine s_nil)
theorem w_pairs_are_right {P : Program} {w : World} {K : PySem.W.Frag} {mg : Str → Option Value} {base : Heap} {f : Addr} (cdv : Value) (A : Around) (outer : List Env) (s : Shared) (H : Hp) (E : XK) (T : Tb) (p : Option Addr) (L : Ls) (Fe : Addr → Prop) (W : WX) (wc : ∀ cls d σ σ' H, W cls d σ H → W cls d σ' H) (g : Good ⟨G4, T, p, L, 20⟩ W (cxOf (L2.CX P w) P w K mg base n_pairs_are_right "pairs_are_right" (defScope (top 12)) f cdv A outer s H E) 6)
    (hp : PassesOwn (model P w) (cxOf (L2.CX P w) P w K mg base n_pairs_are_right "pairs_are_right" (defScope (top 12)) f cdv A outer s H E).A (cxOf (L2.CX P w) P w K mg base n_pairs_are_right "pairs_are_right" (defScope (top 12)) f cdv A outer s H E).env (cxOf (L2.CX P w) P w K mg base n_pairs_are_right "pairs_are_right" (defScope (top 12)) f cdv A outer s H E).xe) : PSs (cxOf (L2.CX P w) P w K mg base n_pairs_are_right "pairs_are_right" (defScope (top 12)) f cdv A outer s H E) (defBody (top 12)) (rdSs ⟨G4, T, p, L, 20⟩ Fe W K mg b_pairs_are_right) := by (
      refine s_cons ?_ ?_; refine s_if ?_ ?_ ?_; refine t_of ?_; refine q_or ?_ ?_; refine t_not ?_; refine t_val ?_ (fun _ => (by exact rfl))
      refine k_isi g (by exact rfl) (by exact rfl) (w_free g (by exact rfl) (by exact rfl) (by exact rfl) (by exact rfl) (by exact rfl)) (w_free g (by exact rfl) (by exact rfl) (by exact rfl) (by exact rfl) (by exact rfl)) ?_ (by exact rfl)
      exact r_v g; refine q_one_or ?_; refine t_not ?_; refine t_val ?_ (fun _ => (by exact rfl)); refine r_b g ?_; refine r_c g ?_ ?_
      refine w_lc g ?_ (blkOk_by (by kernel_rfl)) (by decide) (fun s H C cl fp g => ?_) (fun s H C cl fp g => ?_) (fun s H C cl fp g => ?_) (fun _ => (by exact rfl))
      refine i_seq g ?_; exact r_v g
      exact pg_name g.nd (by exact rfl) (loc_of (by exact rfl)) (by first | exact .inl (by exact rfl) | exact .inr (by exact rfl)); refine ts_no
      refine r_f g ?_; refine r_c g ?_ ?_; exact r_v g; refine r_c g ?_ ?_; exact r_v g; refine a_nil g; refine a_nil g; refine s_cons ?_ ?_
      refine s_ret ?_; refine k_bool g; refine s_nil; refine s_nil; refine s_cons ?_ ?_; refine s_ret ?_; refine r_b g ?_; refine r_c g ?_ ?_
      refine w_lc g ?_ (blkOk_by (by kernel_rfl)) (by decide) (fun s H C cl fp g => ?_) (fun s H C cl fp g => ?_) (fun s H C cl fp g => ?_) (fun _ => (by exact rfl))
      refine i_zip g (w_free g (by exact rfl) (by exact rfl) (by exact rfl) (by exact rfl) (by exact rfl)) ?_ ?_ (by exact rfl) (by exact rfl); exact r_v g
      refine k_slc g ?_ ?_ ?_; exact r_v g; refine o_so g ?_; refine k_int g; refine o_no g; refine g_tup g.calm ?_ (by exact rfl) (by exact rfl)
      refine gs_cons (pg_name g.nd (by exact rfl) (loc_of (by exact rfl)) (by first | exact .inl (by exact rfl) | exact .inr (by exact rfl))) ?_ (by exact rfl)
      refine gs_cons (pg_name g.nd (by exact rfl) (loc_of (by exact rfl)) (by first | exact .inl (by exact rfl) | exact .inr (by exact rfl))) ?_ (by exact rfl)
      exact gs_nil; refine ts_no; refine k_cmp (o := Co.lt) g ?_ ?_ (by exact rfl); exact r_v g; exact r_v g; refine a_nil g; refine s_nil)
theorem w_pairs_among {P : Program} {w : World} {K : PySem.W.Frag} {mg : Str → Option Value} {base : Heap} {f : Addr} (cdv : Value) (A : Around) (outer : List Env) (s : Shared) (H : Hp) (E : XK) (T : Tb) (p : Option Addr) (L : Ls) (Fe : Addr → Prop) (W : WX) (wc : ∀ cls d σ σ' H, W cls d σ H → W cls d σ' H) (g : Good ⟨G5, T, p, L, 20⟩ W (cxOf (L2.CX P w) P w K mg base n_pairs_among "pairs_among" (defScope (top 13)) f cdv A outer s H E) 3)
    (hp : PassesOwn (model P w) (cxOf (L2.CX P w) P w K mg base n_pairs_among "pairs_among" (defScope (top 13)) f cdv A outer s H E).A (cxOf (L2.CX P w) P w K mg base n_pairs_among "pairs_among" (defScope (top 13)) f cdv A outer s H E).env (cxOf (L2.CX P w) P w K mg base n_pairs_among "pairs_among" (defScope (top 13)) f cdv A outer s H E).xe) : PSs (cxOf (L2.CX P w) P w K mg base n_pairs_among "pairs_among" (defScope (top 13)) f cdv A outer s H E) (defBody (top 13)) (rdSs ⟨G5, T, p, L, 20⟩ Fe W K mg b_pairs_among) := by (
      refine s_cons ?_ ?_; refine s_setG g.nd (by exact rfl) (loc_of (by exact rfl)) (.inl (by exact rfl)) ?_ (by exact rfl) (fun _ _ _ => own_read)
      refine k_lst g ?_; refine a_nil g; refine s_cons ?_ ?_; refine s_for g hp ?_ ?_ ?_ (fun _ => (by exact rfl))
      refine i_enum g (w_free g (by exact rfl) (by exact rfl) (by exact rfl) (by exact rfl) (by exact rfl)) ?_ (by exact rfl); exact r_v g
      refine g_tup g.calm ?_ (by exact rfl) (by exact rfl)
      refine gs_cons (pg_name g.nd (by exact rfl) (loc_of (by exact rfl)) (by first | exact .inl (by exact rfl) | exact .inr (by exact rfl))) ?_ (by exact rfl)
      refine gs_cons (pg_name g.nd (by exact rfl) (loc_of (by exact rfl)) (by first | exact .inl (by exact rfl) | exact .inr (by exact rfl))) ?_ (by exact rfl)
      exact gs_nil; refine s_cons ?_ ?_
      refine s_ext g (by exact rfl) (vis_of (by exact rfl)) (by exact rfl) (by exact rfl) ?_ (by exact rfl) (by exact rfl) (by exact rfl) (by exact rfl) (by exact rfl)
      refine w_lc g ?_ (blkOk_by (by kernel_rfl)) (by decide) (fun s H C cl fp g => ?_) (fun s H C cl fp g => ?_) (fun s H C cl fp g => ?_) (fun _ => (by exact rfl))
      refine i_seq g ?_; refine k_slc g ?_ ?_ ?_; exact r_v g; refine o_so g ?_; refine k_bin (o := Bo.add) g ?_ ?_; exact r_v g; refine k_int g
      refine o_no g; exact pg_name g.nd (by exact rfl) (loc_of (by exact rfl)) (by first | exact .inl (by exact rfl) | exact .inr (by exact rfl))
      refine ts_no; refine k_tup g ?_; refine r_c g ?_ ?_; exact r_v g; refine r_c g ?_ ?_; exact r_v g; refine a_nil g; refine s_nil; refine s_cons ?_ ?_
      refine s_ret ?_; exact r_v g; refine s_nil)
theorem w_step_is_right {P : Program} {w : World} {K : PySem.W.Frag} {mg : Str → Option Value} {base : Heap} {f : Addr} (cdv : Value) (A : Around) (outer : List Env) (s : Shared) (H : Hp) (E : XK) (T : Tb) (p : Option Addr) (L : Ls) (Fe : Addr → Prop) (W : WX) (wc : ∀ cls d σ σ' H, W cls d σ H → W cls d σ' H) (g : Good ⟨G6, T, p, L, 20⟩ W (cxOf (L2.CX P w) P w K mg base n_step_is_right "step_is_right" (defScope (top 14)) f cdv A outer s H E) 6)
    (hp : PassesOwn (model P w) (cxOf (L2.CX P w) P w K mg base n_step_is_right "step_is_right" (defScope (top 14)) f cdv A outer s H E).A (cxOf (L2.CX P w) P w K mg base n_step_is_right "step_is_right" (defScope (top 14)) f cdv A outer s H E).env (cxOf (L2.CX P w) P w K mg base n_step_is_right "step_is_right" (defScope (top 14)) f cdv A outer s H E).xe) : PSs (cxOf (L2.CX P w) P w K mg base n_step_is_right "step_is_right" (defScope (top 14)) f cdv A outer s H E) (defBody (top 14)) (rdSs ⟨G6, T, p, L, 20⟩ Fe W K mg b_step_is_right) := by (
      refine s_cons ?_ ?_; refine s_if ?_ ?_ ?_; refine t_of ?_; refine q_or ?_ ?_; refine t_not ?_; refine t_val ?_ (fun _ => (by exact rfl))
      refine k_isi g (by exact rfl) (by exact rfl) (w_free g (by exact rfl) (by exact rfl) (by exact rfl) (by exact rfl) (by exact rfl)) (w_free g (by exact rfl) (by exact rfl) (by exact rfl) (by exact rfl) (by exact rfl)) ?_ (by exact rfl)
      exact r_v g; refine q_or ?_ ?_; refine r_t (o := .ne) g ?_ ?_; refine r_b g ?_; refine r_c g ?_ ?_; exact r_v g; refine a_nil g; refine k_int g
      refine q_or ?_ ?_; refine t_not ?_; refine t_val ?_ (fun _ => (by exact rfl)); refine r_f g ?_; refine r_c g ?_ ?_; refine r_i g ?_ ?_; exact r_v g
      refine k_int g; refine r_c g ?_ ?_; refine w_glb g (by exact rfl) (by exact rfl) (by exact rfl); refine a_nil g; refine q_one_or ?_
      refine r_t (o := .isin) g ?_ ?_; refine r_i g ?_ ?_; exact r_v g; refine k_int g; exact r_v g; refine s_cons ?_ ?_; refine s_ret ?_; refine k_bool g
      refine s_nil; refine s_nil; refine s_cons ?_ ?_; refine s_if ?_ ?_ ?_; refine t_of ?_; refine q_or ?_ ?_; refine t_not ?_
      refine t_val ?_ (fun _ => (by exact rfl))
      refine k_isi g (by exact rfl) (by exact rfl) (w_free g (by exact rfl) (by exact rfl) (by exact rfl) (by exact rfl) (by exact rfl)) (w_free g (by exact rfl) (by exact rfl) (by exact rfl) (by exact rfl) (by exact rfl)) ?_ (by exact rfl)
      refine r_i g ?_ ?_; exact r_v g; refine k_int g; refine q_one_or ?_; refine t_not ?_; refine t_val ?_ (fun _ => (by exact rfl)); refine r_b g ?_
      refine r_c g ?_ ?_
      refine w_lc g ?_ (blkOk_by (by kernel_rfl)) (by decide) (fun s H C cl fp g => ?_) (fun s H C cl fp g => ?_) (fun s H C cl fp g => ?_) (fun _ => (by exact rfl))
      refine i_seq g ?_; refine r_i g ?_ ?_; exact r_v g; refine k_int g
      exact pg_name g.nd (by exact rfl) (loc_of (by exact rfl)) (by first | exact .inl (by exact rfl) | exact .inr (by exact rfl)); refine ts_no
      refine k_and g ?_ ?_; refine r_f g ?_; refine r_c g ?_ ?_; exact r_v g; refine r_c g ?_ ?_
      refine w_glb g (by exact rfl) (by exact rfl) (by exact rfl); refine a_nil g; refine e_one ?_; refine k_cmp (o := Co.isin) g ?_ ?_ (by exact rfl)
      exact r_v g; exact r_v g; refine a_nil g; refine s_cons ?_ ?_; refine s_ret ?_; refine k_bool g; refine s_nil; refine s_nil; refine s_cons ?_ ?_
      refine s_if ?_ ?_ ?_; refine t_not ?_; refine t_val ?_ (fun _ => (by exact rfl)); refine r_b g ?_; refine r_c g ?_ ?_
      refine w_lc g ?_ (blkOk_by (by kernel_rfl)) (by decide) (fun s H C cl fp g => ?_) (fun s H C cl fp g => ?_) (fun s H C cl fp g => ?_) (fun _ => (by exact rfl))
      refine i_zip g (w_free g (by exact rfl) (by exact rfl) (by exact rfl) (by exact rfl) (by exact rfl)) ?_ ?_ (by exact rfl) (by exact rfl)
      refine r_i g ?_ ?_; exact r_v g; refine k_int g; refine k_slc g ?_ ?_ ?_; refine r_i g ?_ ?_; exact r_v g; refine k_int g; refine o_so g ?_
      refine k_int g; refine o_no g; refine g_tup g.calm ?_ (by exact rfl) (by exact rfl)
      refine gs_cons (pg_name g.nd (by exact rfl) (loc_of (by exact rfl)) (by first | exact .inl (by exact rfl) | exact .inr (by exact rfl))) ?_ (by exact rfl)
      refine gs_cons (pg_name g.nd (by exact rfl) (loc_of (by exact rfl)) (by first | exact .inl (by exact rfl) | exact .inr (by exact rfl))) ?_ (by exact rfl)
      exact gs_nil; refine ts_no; refine k_cmp (o := Co.lt) g ?_ ?_ (by exact rfl); exact r_v g; exact r_v g; refine a_nil g; refine s_cons ?_ ?_
      refine s_ret ?_; refine k_bool g; refine s_nil; refine s_nil; refine s_cons ?_ ?_; refine s_if ?_ ?_ ?_; refine t_isN g ?_ (by exact rfl)
      refine r_i g ?_ ?_; exact r_v g; refine k_int g; refine s_cons ?_ ?_; refine s_ret ?_; refine k_cmp (o := Co.eq) g ?_ ?_ (by exact rfl)
      refine r_b g ?_; refine r_c g ?_ ?_; refine r_i g ?_ ?_; exact r_v g; refine k_int g; refine a_nil g; refine r_b g ?_; refine r_c g ?_ ?_
      refine k_int g; refine r_c g ?_ ?_; refine r_b g ?_; refine r_c g ?_ ?_; exact r_v g; refine a_nil g; refine a_nil g; refine s_nil; refine s_nil
      refine s_cons ?_ ?_; refine s_if ?_ ?_ ?_; refine t_of ?_; refine q_or ?_ ?_; refine r_t (o := .lt) g ?_ ?_; refine r_b g ?_; refine r_c g ?_ ?_
      exact r_v g; refine a_nil g; refine k_int g; refine q_or ?_ ?_; refine r_t (o := .ne) g ?_ ?_; refine r_b g ?_; refine r_c g ?_ ?_; refine r_i g ?_ ?_
      exact r_v g; refine k_int g; refine a_nil g; refine k_int g; refine q_one_or ?_; refine t_not ?_; refine t_val ?_ (fun _ => (by exact rfl))
      refine r_f g ?_; refine r_c g ?_ ?_; refine w_glb g (by exact rfl) (by exact rfl) (by exact rfl); refine r_c g ?_ ?_; refine r_i g ?_ ?_; exact r_v g
      refine k_int g; refine a_nil g; refine s_cons ?_ ?_; refine s_ret ?_; refine k_bool g; refine s_nil; refine s_nil; refine s_cons ?_ ?_
      refine s_ret ?_; refine k_and g ?_ ?_; refine k_cmp (o := Co.isin) g ?_ ?_ (by exact rfl); refine r_i g ?_ ?_; exact r_v g; refine k_int g
      refine r_f g ?_; refine r_c g ?_ ?_; refine r_i g ?_ ?_; exact r_v g; refine k_int g; refine a_nil g; refine e_one ?_
      refine k_cmp (o := Co.isin) g ?_ ?_ (by exact rfl); refine r_i g ?_ ?_; exact r_v g; refine k_int g; exact r_v g; refine s_nil)
theorem w_behind_step {P : Program} {w : World} {K : PySem.W.Frag} {mg : Str → Option Value} {base : Heap} {f : Addr} (cdv : Value) (A : Around) (outer : List Env) (s : Shared) (H : Hp) (E : XK) (T : Tb) (p : Option Addr) (L : Ls) (Fe : Addr → Prop) (W : WX) (wc : ∀ cls d σ σ' H, W cls d σ H → W cls d σ' H) (g : Good ⟨G7, T, p, L, 20⟩ W (cxOf (L2.CX P w) P w K mg base n_behind_step "behind_step" (defScope (top 15)) f cdv A outer s H E) 3)
    (hp : PassesOwn (model P w) (cxOf (L2.CX P w) P w K mg base n_behind_step "behind_step" (defScope (top 15)) f cdv A outer s H E).A (cxOf (L2.CX P w) P w K mg base n_behind_step "behind_step" (defScope (top 15)) f cdv A outer s H E).env (cxOf (L2.CX P w) P w K mg base n_behind_step "behind_step" (defScope (top 15)) f cdv A outer s H E).xe) : PSs (cxOf (L2.CX P w) P w K mg base n_behind_step "behind_step" (defScope (top 15)) f cdv A outer s H E) (defBody (top 15)) (rdSs ⟨G7, T, p, L, 20⟩ Fe W K mg b_behind_step) := by (
      refine s_cons ?_ ?_
      refine w_setL g (by exact rfl) (by exact rfl) (by exact rfl) ?_ (blkOk_by (by kernel_rfl)) (by decide) (fun s H C cl fp g => ?_) (fun s H C cl fp g => ?_) (fun s H C cl fp g => ?_) (fun _ => (by exact rfl)) (fun _ _ _ => asg_read)
      refine i_seq g ?_; exact r_v g
      exact pg_name g.nd (by exact rfl) (loc_of (by exact rfl)) (by first | exact .inl (by exact rfl) | exact .inr (by exact rfl)); refine ts_so ?_
      refine r_t (o := .ne) g ?_ ?_; exact r_v g; refine r_i g ?_ ?_; exact r_v g; refine k_int g; exact r_v g; refine s_cons ?_ ?_; refine s_ret ?_
      refine r_b g ?_; refine r_c g ?_ ?_; refine r_b g ?_; refine r_c g ?_ ?_; refine k_bin (o := Bo.add) g ?_ ?_; exact r_v g
      refine w_lc g ?_ (blkOk_by (by kernel_rfl)) (by decide) (fun s H C cl fp g => ?_) (fun s H C cl fp g => ?_) (fun s H C cl fp g => ?_) (fun _ => (by exact rfl))
      refine i_seq g ?_; refine r_i g ?_ ?_; exact r_v g; refine k_int g
      exact pg_name g.nd (by exact rfl) (loc_of (by exact rfl)) (by first | exact .inl (by exact rfl) | exact .inr (by exact rfl)); refine ts_no
      refine k_tup g ?_; refine r_c g ?_ ?_; refine r_b g ?_; refine r_c g ?_ ?_; refine r_i g ?_ ?_; exact r_v g; refine k_int g; refine r_c g ?_ ?_
      exact r_v g; refine a_nil g; refine r_c g ?_ ?_; refine r_b g ?_; refine r_c g ?_ ?_; refine r_i g ?_ ?_; exact r_v g; refine k_int g
      refine r_c g ?_ ?_; exact r_v g; refine a_nil g; refine a_nil g; refine a_nil g; refine a_nil g; refine s_nil)
theorem w_built_by {P : Program} {w : World} {K : PySem.W.Frag} {mg : Str → Option Value} {base : Heap} {f : Addr} (cdv : Value) (A : Around) (outer : List Env) (s : Shared) (H : Hp) (E : XK) (T : Tb) (p : Option Addr) (L : Ls) (Fe : Addr → Prop) (W : WX) (wc : ∀ cls d σ σ' H, W cls d σ H → W cls d σ' H) (g : Good ⟨G8, T, p, L, 20⟩ W (cxOf (L2.CX P w) P w K mg base n_built_by "built_by" (defScope (top 16)) f cdv A outer s H E) 7)
    (hp : PassesOwn (model P w) (cxOf (L2.CX P w) P w K mg base n_built_by "built_by" (defScope (top 16)) f cdv A outer s H E).A (cxOf (L2.CX P w) P w K mg base n_built_by "built_by" (defScope (top 16)) f cdv A outer s H E).env (cxOf (L2.CX P w) P w K mg base n_built_by "built_by" (defScope (top 16)) f cdv A outer s H E).xe) : PSs (cxOf (L2.CX P w) P w K mg base n_built_by "built_by" (defScope (top 16)) f cdv A outer s H E) (defBody (top 16)) (rdSs ⟨G8, T, p, L, 20⟩ Fe W K mg b_built_by) := by (
      refine s_cons ?_ ?_; refine s_if ?_ ?_ ?_; refine t_of ?_; refine q_or ?_ ?_; refine t_not ?_; refine t_val ?_ (fun _ => (by exact rfl))
      refine r_f g ?_; refine r_c g ?_ ?_; exact r_v g; refine a_nil g; refine q_one_or ?_; refine r_t (o := .ne) g ?_ ?_; refine r_b g ?_
      refine r_c g ?_ ?_; exact r_v g; refine a_nil g; exact r_v g; refine s_cons ?_ ?_; refine s_ret ?_; refine k_none g; refine s_nil; refine s_nil
      refine s_cons ?_ ?_; refine s_par2 g (by exact rfl) (by exact rfl) (by decide) (by exact rfl) (by exact rfl) ?_ (by exact rfl) (by exact rfl)
      refine r_c g ?_ ?_; refine k_lst g ?_; refine a_nil g; refine r_c g ?_ ?_; refine k_tup g ?_; refine a_nil g; refine a_nil g; refine s_cons ?_ ?_
      refine s_for g hp ?_ ?_ ?_ (fun _ => (by exact rfl)); refine i_seq g ?_; exact r_v g
      exact pg_name g.nd (by exact rfl) (loc_of (by exact rfl)) (by first | exact .inl (by exact rfl) | exact .inr (by exact rfl)); refine s_cons ?_ ?_
      refine s_if ?_ ?_ ?_; refine t_of ?_; refine q_or ?_ ?_; refine t_not ?_; refine t_val ?_ (fun _ => (by exact rfl)); refine r_f g ?_
      refine r_c g ?_ ?_; exact r_v g; refine r_c g ?_ ?_; exact r_v g; refine r_c g ?_ ?_; exact r_v g; refine a_nil g; refine q_one_or ?_
      refine r_t (o := .ge) g ?_ ?_; refine r_i g ?_ ?_; exact r_v g; refine k_int g; exact r_v g; refine s_cons ?_ ?_; refine s_ret ?_; refine k_none g
      refine s_nil; refine s_nil; refine s_cons ?_ ?_
      refine s_app g (by exact rfl) (vis_of (by exact rfl)) (by exact rfl) (by exact rfl) ?_ (by exact rfl) (by exact rfl) (by exact rfl) (by exact rfl) (by exact rfl)
      refine r_i g ?_ ?_; exact r_v g; refine k_int g; refine s_cons ?_ ?_; refine r_a g ?_; refine r_f g ?_; refine r_c g ?_ ?_; exact r_v g
      refine r_c g ?_ ?_; exact r_v g; refine a_nil g; refine s_nil; refine s_cons ?_ ?_; refine s_ret ?_; exact r_v g; refine s_nil)
theorem w_check_many {P : Program} {w : World} {K : PySem.W.Frag} {mg : Str → Option Value} {base : Heap} {f : Addr} (cdv : Value) (A : Around) (outer : List Env) (s : Shared) (H : Hp) (E : XK) (T : Tb) (p : Option Addr) (L : Ls) (Fe : Addr → Prop) (W : WX) (wc : ∀ cls d σ σ' H, W cls d σ H → W cls d σ' H) (g : Good ⟨G9, T, p, L, 20⟩ W (cxOf (L2.CX P w) P w K mg base n_check_many "check_many" (defScope (top 17)) f cdv A outer s H E) 4)
    (hp : PassesOwn (model P w) (cxOf (L2.CX P w) P w K mg base n_check_many "check_many" (defScope (top 17)) f cdv A outer s H E).A (cxOf (L2.CX P w) P w K mg base n_check_many "check_many" (defScope (top 17)) f cdv A outer s H E).env (cxOf (L2.CX P w) P w K mg base n_check_many "check_many" (defScope (top 17)) f cdv A outer s H E).xe) : PSs (cxOf (L2.CX P w) P w K mg base n_check_many "check_many" (defScope (top 17)) f cdv A outer s H E) (defBody (top 17)) (rdSs ⟨G9, T, p, L, 20⟩ Fe W K mg b_check_many) := by (
      refine s_cons ?_ ?_; refine s_if ?_ ?_ ?_; refine t_of ?_; refine q_or ?_ ?_; refine t_not ?_; refine t_val ?_ (fun _ => (by exact rfl))
      refine r_f g ?_; refine r_c g ?_ ?_; exact r_v g; refine a_nil g; refine q_one_or ?_; refine t_not ?_
      refine k_cmp2T (o := Co.le) (o' := Co.le) g ?_ ?_ ?_ (by exact rfl); refine k_int g; exact r_v g
      refine w_glb g (by exact rfl) (by exact rfl) (by exact rfl); refine s_cons ?_ ?_
      refine w_raise g (by exact rfl) (by exact rfl) (by decide) (by exact rfl) ?_; exact r_v g; refine s_nil; refine s_nil; refine s_nil)
theorem w_check_pairs {P : Program} {w : World} {K : PySem.W.Frag} {mg : Str → Option Value} {base : Heap} {f : Addr} (cdv : Value) (A : Around) (outer : List Env) (s : Shared) (H : Hp) (E : XK) (T : Tb) (p : Option Addr) (L : Ls) (Fe : Addr → Prop) (W : WX) (wc : ∀ cls d σ σ' H, W cls d σ H → W cls d σ' H) (g : Good ⟨G10, T, p, L, 20⟩ W (cxOf (L2.CX P w) P w K mg base n_check_pairs "check_pairs" (defScope (top 18)) f cdv A outer s H E) 7)
    (hp : PassesOwn (model P w) (cxOf (L2.CX P w) P w K mg base n_check_pairs "check_pairs" (defScope (top 18)) f cdv A outer s H E).A (cxOf (L2.CX P w) P w K mg base n_check_pairs "check_pairs" (defScope (top 18)) f cdv A outer s H E).env (cxOf (L2.CX P w) P w K mg base n_check_pairs "check_pairs" (defScope (top 18)) f cdv A outer s H E).xe) : PSs (cxOf (L2.CX P w) P w K mg base n_check_pairs "check_pairs" (defScope (top 18)) f cdv A outer s H E) (defBody (top 18)) (rdSs ⟨G10, T, p, L, 20⟩ Fe W K mg b_check_pairs) := by (
      refine s_cons ?_ ?_; refine s_expr ?_ (by exact rfl); refine r_f g ?_; refine r_c g ?_ ?_; exact r_v g; refine a_nil g; refine s_cons ?_ ?_
      refine s_if ?_ ?_ ?_; refine t_not ?_; refine t_val ?_ (fun _ => (by exact rfl)); refine r_f g ?_; refine r_c g ?_ ?_; exact r_v g; refine r_c g ?_ ?_
      exact r_v g; refine a_nil g; refine s_cons ?_ ?_; refine w_raise g (by exact rfl) (by exact rfl) (by decide) (by exact rfl) ?_; exact r_v g
      refine s_nil; refine s_nil; refine s_nil)
theorem w_is_row {P : Program} {w : World} {K : PySem.W.Frag} {mg : Str → Option Value} {base : Heap} {f : Addr} (cdv : Value) (A : Around) (outer : List Env) (s : Shared) (H : Hp) (E : XK) (T : Tb) (p : Option Addr) (L : Ls) (Fe : Addr → Prop) (W : WX) (wc : ∀ cls d σ σ' H, W cls d σ H → W cls d σ' H) (g : Good ⟨G11, T, p, L, 20⟩ W (cxOf (L2.CX P w) P w K mg base n_is_row "is_row" (defScope (top 19)) f cdv A outer s H E) 8)
    (hp : PassesOwn (model P w) (cxOf (L2.CX P w) P w K mg base n_is_row "is_row" (defScope (top 19)) f cdv A outer s H E).A (cxOf (L2.CX P w) P w K mg base n_is_row "is_row" (defScope (top 19)) f cdv A outer s H E).env (cxOf (L2.CX P w) P w K mg base n_is_row "is_row" (defScope (top 19)) f cdv A outer s H E).xe) : PSs (cxOf (L2.CX P w) P w K mg base n_is_row "is_row" (defScope (top 19)) f cdv A outer s H E) (defBody (top 19)) (rdSs ⟨G11, T, p, L, 20⟩ Fe W K mg b_is_row) := by (
      refine s_cons ?_ ?_; refine s_expr ?_ (by exact rfl); refine r_f g ?_; refine r_c g ?_ ?_; exact r_v g; refine a_nil g; refine s_cons ?_ ?_
      refine s_ret ?_; refine e_notN g ?_ (by exact rfl); refine r_f g ?_; refine r_c g ?_ ?_; exact r_v g; refine r_c g ?_ ?_; exact r_v g; refine a_nil g
      refine s_nil)
theorem w_row_pairs {P : Program} {w : World} {K : PySem.W.Frag} {mg : Str → Option Value} {base : Heap} {f : Addr} (cdv : Value) (A : Around) (outer : List Env) (s : Shared) (H : Hp) (E : XK) (T : Tb) (p : Option Addr) (L : Ls) (Fe : Addr → Prop) (W : WX) (wc : ∀ cls d σ σ' H, W cls d σ H → W cls d σ' H) (g : Good ⟨G12, T, p, L, 20⟩ W (cxOf (L2.CX P w) P w K mg base n_row_pairs "row_pairs" (defScope (top 20)) f cdv A outer s H E) 8)
    (hp : PassesOwn (model P w) (cxOf (L2.CX P w) P w K mg base n_row_pairs "row_pairs" (defScope (top 20)) f cdv A outer s H E).A (cxOf (L2.CX P w) P w K mg base n_row_pairs "row_pairs" (defScope (top 20)) f cdv A outer s H E).env (cxOf (L2.CX P w) P w K mg base n_row_pairs "row_pairs" (defScope (top 20)) f cdv A outer s H E).xe) : PSs (cxOf (L2.CX P w) P w K mg base n_row_pairs "row_pairs" (defScope (top 20)) f cdv A outer s H E) (defBody (top 20)) (rdSs ⟨G12, T, p, L, 20⟩ Fe W K mg b_row_pairs) := by (
      refine s_cons ?_ ?_; refine s_expr ?_ (by exact rfl); refine r_f g ?_; refine r_c g ?_ ?_; exact r_v g; refine a_nil g; refine s_cons ?_ ?_
      refine r_a g ?_; refine r_f g ?_; refine r_c g ?_ ?_; exact r_v g; refine r_c g ?_ ?_; exact r_v g; refine a_nil g; refine s_cons ?_ ?_
      refine s_if ?_ ?_ ?_; refine t_isN g ?_ (by exact rfl); exact r_v g; refine s_cons ?_ ?_
      refine w_raise g (by exact rfl) (by exact rfl) (by decide) (by exact rfl) ?_; exact r_v g; refine s_nil; refine s_nil; refine s_cons ?_ ?_
      refine s_ret ?_; exact r_v g; refine s_nil)
theorem w_does_build {P : Program} {w : World} {K : PySem.W.Frag} {mg : Str → Option Value} {base : Heap} {f : Addr} (cdv : Value) (A : Around) (outer : List Env) (s : Shared) (H : Hp) (E : XK) (T : Tb) (p : Option Addr) (L : Ls) (Fe : Addr → Prop) (W : WX) (wc : ∀ cls d σ σ' H, W cls d σ H → W cls d σ' H) (g : Good ⟨G13, T, p, L, 20⟩ W (cxOf (L2.CX P w) P w K mg base n_does_build "does_build" (defScope (top 21)) f cdv A outer s H E) 8)
    (hp : PassesOwn (model P w) (cxOf (L2.CX P w) P w K mg base n_does_build "does_build" (defScope (top 21)) f cdv A outer s H E).A (cxOf (L2.CX P w) P w K mg base n_does_build "does_build" (defScope (top 21)) f cdv A outer s H E).env (cxOf (L2.CX P w) P w K mg base n_does_build "does_build" (defScope (top 21)) f cdv A outer s H E).xe) : PSs (cxOf (L2.CX P w) P w K mg base n_does_build "does_build" (defScope (top 21)) f cdv A outer s H E) (defBody (top 21)) (rdSs ⟨G13, T, p, L, 20⟩ Fe W K mg b_does_build) := by (
      refine s_cons ?_ ?_; refine s_expr ?_ (by exact rfl); refine r_f g ?_; refine r_c g ?_ ?_; exact r_v g; refine r_c g ?_ ?_; exact r_v g
      refine a_nil g; refine s_cons ?_ ?_; refine s_ret ?_; refine k_cmp (o := Co.eq) g ?_ ?_ (by exact rfl); refine r_f g ?_; refine r_c g ?_ ?_
      exact r_v g; refine r_c g ?_ ?_; exact r_v g; refine a_nil g; exact r_v g; refine s_nil)
theorem wp__law_pot {P : Program} {w : World} {K : PySem.W.Frag} {mg : Str → Option Value} {base : Heap} {f : Addr} (cdv : Value) (A : Around) (outer : List Env) (s : Shared) (H : Hp) (E : XK) (T : Tb) (Fe : Addr → Prop) (W : WX) (wc : ∀ cls d σ σ' H, W cls d σ H → W cls d σ' H) (g : Good ⟨G14, T, none, noL, 20⟩ W (cxOf (L2.CX P w) P w K mg base n__law_pot "_law_pot" (defScope (top 23)) f cdv A outer s H E) 3) : PS (cxOf (L2.CX P w) P w K mg base n__law_pot "_law_pot" (defScope (top 23)) f cdv A outer s H E) (stAt (defBody (top 23)) [0]) (rdS ⟨G14, T, none, noL, 20⟩ Fe W K mg x__law_pot) ∧ PE (cxOf (L2.CX P w) P w K mg base n__law_pot "_law_pot" (defScope (top 23)) f cdv A outer s H E) (retOf (stAt (defBody (top 23)) [1])) (rdE ⟨G14, T, none, noL, 20⟩ W K mg (.lst e__law_pot)) := ⟨by (
      refine r_a g ?_; refine k_ite g ?_ ?_ ?_; refine r_t (o := .lt) g ?_ ?_; exact r_v g; refine r_b g ?_; refine r_c g ?_ ?_; exact r_v g; refine a_nil g
      refine r_b g ?_; refine r_c g ?_ ?_; refine r_i g ?_ ?_; exact r_v g; exact r_v g; refine a_nil g; refine k_bin (o := Bo.add) g ?_ ?_
      refine k_bin (o := Bo.mul) g ?_ ?_; refine k_int g; exact r_v g; refine k_int g), by (
      refine k_lst g ?_; refine r_c g ?_ ?_; refine r_b g ?_; refine r_c g ?_ ?_; refine k_int g; refine r_c g ?_ ?_; refine k_bin (o := Bo.sub) g ?_ ?_
      exact r_v g; refine k_bin (o := Bo.pow) g ?_ ?_; refine k_int g; refine k_int g; refine a_nil g; refine r_c g ?_ ?_
      refine k_bin (o := Bo.add) g ?_ ?_; refine k_bin (o := Bo.mod) g ?_ ?_; refine r_b g ?_; refine r_c g ?_ ?_; refine k_bin (o := Bo.add) g ?_ ?_
      refine k_bin (o := Bo.add) g ?_ ?_; refine k_bin (o := Bo.mul) g ?_ ?_; refine k_bin (o := Bo.mod) g ?_ ?_; refine r_b g ?_; refine r_c g ?_ ?_
      exact r_v g; refine a_nil g; refine k_int g; refine k_int g; refine k_bin (o := Bo.mul) g ?_ ?_; refine k_int g; exact r_v g; refine k_int g
      refine a_nil g; refine k_int g; refine k_int g; refine a_nil g)⟩
theorem w__law_pot {P : Program} {w : World} {K : PySem.W.Frag} {mg : Str → Option Value} {base : Heap} {f : Addr} (cdv : Value) (A : Around) (outer : List Env) (s : Shared) (H : Hp) (E : XK) (T : Tb) (p : Option Addr) (L : Ls) (Fe : Addr → Prop) (W : WX) (wc : ∀ cls d σ σ' H, W cls d σ H → W cls d σ' H) (g : Good ⟨G14, T, p, L, 20⟩ W (cxOf (L2.CX P w) P w K mg base n__law_pot "_law_pot" (defScope (top 23)) f cdv A outer s H E) 3)
    (hp : PassesOwn (model P w) (cxOf (L2.CX P w) P w K mg base n__law_pot "_law_pot" (defScope (top 23)) f cdv A outer s H E).A (cxOf (L2.CX P w) P w K mg base n__law_pot "_law_pot" (defScope (top 23)) f cdv A outer s H E).env (cxOf (L2.CX P w) P w K mg base n__law_pot "_law_pot" (defScope (top 23)) f cdv A outer s H E).xe) : PSs (cxOf (L2.CX P w) P w K mg base n__law_pot "_law_pot" (defScope (top 23)) f cdv A outer s H E) (defBody (top 23)) (rdSs ⟨G14, T, p, L, 20⟩ Fe W K mg b__law_pot) := by (
      refine s_cons ?_ ?_; refine r_a g ?_; refine k_ite g ?_ ?_ ?_; refine r_t (o := .lt) g ?_ ?_; exact r_v g; refine r_b g ?_; refine r_c g ?_ ?_
      exact r_v g; refine a_nil g; refine r_b g ?_; refine r_c g ?_ ?_; refine r_i g ?_ ?_; exact r_v g; exact r_v g; refine a_nil g
      refine k_bin (o := Bo.add) g ?_ ?_; refine k_bin (o := Bo.mul) g ?_ ?_; refine k_int g; exact r_v g; refine k_int g; refine s_cons ?_ ?_
      refine s_ret ?_; refine k_lst g ?_; refine r_c g ?_ ?_; refine r_b g ?_; refine r_c g ?_ ?_; refine k_int g; refine r_c g ?_ ?_
      refine k_bin (o := Bo.sub) g ?_ ?_; exact r_v g; refine k_bin (o := Bo.pow) g ?_ ?_; refine k_int g; refine k_int g; refine a_nil g
      refine r_c g ?_ ?_; refine k_bin (o := Bo.add) g ?_ ?_; refine k_bin (o := Bo.mod) g ?_ ?_; refine r_b g ?_; refine r_c g ?_ ?_
      refine k_bin (o := Bo.add) g ?_ ?_; refine k_bin (o := Bo.add) g ?_ ?_; refine k_bin (o := Bo.mul) g ?_ ?_; refine k_bin (o := Bo.mod) g ?_ ?_
      refine r_b g ?_; refine r_c g ?_ ?_; exact r_v g; refine a_nil g; refine k_int g; refine k_int g; refine k_bin (o := Bo.mul) g ?_ ?_; refine k_int g
      exact r_v g; refine k_int g; refine a_nil g; refine k_int g; refine k_int g; refine a_nil g; refine s_nil)
theorem w__law_draw {P : Program} {w : World} {K : PySem.W.Frag} {mg : Str → Option Value} {base : Heap} {f : Addr} (cdv : Value) (A : Around) (outer : List Env) (s : Shared) (H : Hp) (E : XK) (T : Tb) (p : Option Addr) (L : Ls) (Fe : Addr → Prop) (W : WX) (wc : ∀ cls d σ σ' H, W cls d σ H → W cls d σ' H) (g : Good ⟨G15, T, p, L, 20⟩ W (cxOf (L2.CX P w) P w K mg base n__law_draw "_law_draw" (defScope (top 24)) f cdv A outer s H E) 3)
    (hp : PassesOwn (model P w) (cxOf (L2.CX P w) P w K mg base n__law_draw "_law_draw" (defScope (top 24)) f cdv A outer s H E).A (cxOf (L2.CX P w) P w K mg base n__law_draw "_law_draw" (defScope (top 24)) f cdv A outer s H E).env (cxOf (L2.CX P w) P w K mg base n__law_draw "_law_draw" (defScope (top 24)) f cdv A outer s H E).xe) : PSs (cxOf (L2.CX P w) P w K mg base n__law_draw "_law_draw" (defScope (top 24)) f cdv A outer s H E) (defBody (top 24)) (rdSs ⟨G15, T, p, L, 20⟩ Fe W K mg b__law_draw) := by (
      refine s_cons ?_ ?_; refine s_if ?_ ?_ ?_; refine r_t (o := .gt) g ?_ ?_; refine r_i g ?_ ?_; exact r_v g; refine k_int g; refine k_int g
      refine s_cons ?_ ?_
      refine s_potD g (by exact rfl) (vis_of (by exact rfl)) (by exact rfl) (by exact rfl) (by exact rfl) (loc_of (by exact rfl)) (.inl (by exact rfl)) ?_ (fun _ => (by exact rfl)) (by exact rfl) (by exact rfl) (by exact rfl) (by exact rfl) (by exact rfl) (by exact rfl) (by exact rfl)
      refine r_b g ?_; refine r_c g ?_ ?_; refine r_i g ?_ ?_; exact r_v g; refine k_int g; refine r_c g ?_ ?_; exact r_v g; refine a_nil g
      refine s_cons ?_ ?_; refine s_ret ?_; exact r_v g; refine s_nil; refine s_nil; refine s_cons ?_ ?_
      refine s_potS (k := Bool.true) g (by exact rfl) (vis_of (by exact rfl)) (by exact rfl) (by exact rfl) ?_ (fun _ => (by exact rfl)) (by exact rfl) (by exact rfl) (by exact rfl)
      refine k_bin (o := Bo.mod) g ?_ ?_; refine r_b g ?_; refine r_c g ?_ ?_; refine k_bin (o := Bo.add) g ?_ ?_; refine k_bin (o := Bo.mul) g ?_ ?_
      refine r_i g ?_ ?_; exact r_v g; refine k_int g; refine k_int g; refine k_int g; refine a_nil g; refine k_int g; refine s_cons ?_ ?_; refine s_ret ?_
      refine k_bin (o := Bo.mod) g ?_ ?_; refine r_b g ?_; refine r_c g ?_ ?_; refine k_bin (o := Bo.fdiv) g ?_ ?_; refine k_bin (o := Bo.mod) g ?_ ?_
      refine r_b g ?_; refine r_c g ?_ ?_; refine k_bin (o := Bo.mul) g ?_ ?_; refine r_i g ?_ ?_; exact r_v g; refine k_int g; refine r_i g ?_ ?_
      exact r_v g; refine k_int g; refine a_nil g; refine k_int g; refine k_int g; refine a_nil g; exact r_v g; refine s_nil)
theorem w__law_pick {P : Program} {w : World} {K : PySem.W.Frag} {mg : Str → Option Value} {base : Heap} {f : Addr} (cdv : Value) (A : Around) (outer : List Env) (s : Shared) (H : Hp) (E : XK) (T : Tb) (p : Option Addr) (L : Ls) (Fe : Addr → Prop) (W : WX) (wc : ∀ cls d σ σ' H, W cls d σ H → W cls d σ' H) (g : Good ⟨G16, T, p, L, 20⟩ W (cxOf (L2.CX P w) P w K mg base n__law_pick "_law_pick" (defScope (top 25)) f cdv A outer s H E) 4)
    (hp : PassesOwn (model P w) (cxOf (L2.CX P w) P w K mg base n__law_pick "_law_pick" (defScope (top 25)) f cdv A outer s H E).A (cxOf (L2.CX P w) P w K mg base n__law_pick "_law_pick" (defScope (top 25)) f cdv A outer s H E).env (cxOf (L2.CX P w) P w K mg base n__law_pick "_law_pick" (defScope (top 25)) f cdv A outer s H E).xe) : PSs (cxOf (L2.CX P w) P w K mg base n__law_pick "_law_pick" (defScope (top 25)) f cdv A outer s H E) (defBody (top 25)) (rdSs ⟨G16, T, p, L, 20⟩ Fe W K mg b__law_pick) := by (
      refine s_cons ?_ ?_; refine s_ret ?_; refine r_i g ?_ ?_; exact r_v g; refine r_f g ?_; refine r_c g ?_ ?_; exact r_v g; refine r_c g ?_ ?_
      refine r_b g ?_; refine r_c g ?_ ?_; exact r_v g; refine a_nil g; refine a_nil g; refine s_nil)
theorem w__law_mixed {P : Program} {w : World} {K : PySem.W.Frag} {mg : Str → Option Value} {base : Heap} {f : Addr} (cdv : Value) (A : Around) (outer : List Env) (s : Shared) (H : Hp) (E : XK) (T : Tb) (p : Option Addr) (L : Ls) (Fe : Addr → Prop) (W : WX) (wc : ∀ cls d σ σ' H, W cls d σ H → W cls d σ' H) (g : Good ⟨G17, T, p, L, 20⟩ W (cxOf (L2.CX P w) P w K mg base n__law_mixed "_law_mixed" (defScope (top 26)) f cdv A outer s H E) 4)
    (hp : PassesOwn (model P w) (cxOf (L2.CX P w) P w K mg base n__law_mixed "_law_mixed" (defScope (top 26)) f cdv A outer s H E).A (cxOf (L2.CX P w) P w K mg base n__law_mixed "_law_mixed" (defScope (top 26)) f cdv A outer s H E).env (cxOf (L2.CX P w) P w K mg base n__law_mixed "_law_mixed" (defScope (top 26)) f cdv A outer s H E).xe) : PSs (cxOf (L2.CX P w) P w K mg base n__law_mixed "_law_mixed" (defScope (top 26)) f cdv A outer s H E) (defBody (top 26)) (rdSs ⟨G17, T, p, L, 20⟩ Fe W K mg b__law_mixed) := by (
      refine s_cons ?_ ?_; refine s_par2 g (by exact rfl) (by exact rfl) (by decide) (by exact rfl) (by exact rfl) ?_ (by exact rfl) (by exact rfl)
      refine r_c g ?_ ?_; refine r_b g ?_; refine r_c g ?_ ?_; exact r_v g; refine a_nil g; refine r_c g ?_ ?_; refine k_lst g ?_; refine a_nil g
      refine a_nil g; refine s_cons ?_ ?_; refine s_for g hp ?_ ?_ ?_ (fun _ => (by exact rfl))
      refine i_rng (w_free g (by exact rfl) (by exact rfl) (by exact rfl) (by exact rfl) (by exact rfl)) ?_
      refine rg_1 g (w_free g (by exact rfl) (by exact rfl) (by exact rfl) (by exact rfl) (by exact rfl)) ?_ (by exact rfl); refine r_b g ?_
      refine r_c g ?_ ?_; exact r_v g; refine a_nil g
      exact pg_name g.nd (by exact rfl) (loc_of (by exact rfl)) (by first | exact .inl (by exact rfl) | exact .inr (by exact rfl)); refine s_cons ?_ ?_
      refine r_a g ?_; refine r_f g ?_; refine r_c g ?_ ?_; exact r_v g; refine r_c g ?_ ?_; refine r_b g ?_; refine r_c g ?_ ?_; exact r_v g
      refine a_nil g; refine a_nil g; refine s_cons ?_ ?_
      refine s_app g (by exact rfl) (vis_of (by exact rfl)) (by exact rfl) (by exact rfl) ?_ (by exact rfl) (by exact rfl) (by exact rfl) (by exact rfl) (by exact rfl)
      refine r_i g ?_ ?_; exact r_v g; exact r_v g; refine s_cons ?_ ?_; refine r_a g ?_; refine k_bin (o := Bo.add) g ?_ ?_; refine k_slc g ?_ ?_ ?_
      exact r_v g; refine o_no g; refine o_so g ?_; exact r_v g; refine k_slc g ?_ ?_ ?_; exact r_v g; refine o_so g ?_; refine k_bin (o := Bo.add) g ?_ ?_
      exact r_v g; refine k_int g; refine o_no g; refine s_nil; refine s_cons ?_ ?_; refine s_ret ?_; exact r_v g; refine s_nil)
theorem w__law_same {P : Program} {w : World} {K : PySem.W.Frag} {mg : Str → Option Value} {base : Heap} {f : Addr} (cdv : Value) (A : Around) (outer : List Env) (s : Shared) (H : Hp) (E : XK) (T : Tb) (p : Option Addr) (L : Ls) (Fe : Addr → Prop) (W : WX) (wc : ∀ cls d σ σ' H, W cls d σ H → W cls d σ' H) (g : Good ⟨G18, T, p, L, 20⟩ W (cxOf (L2.CX P w) P w K mg base n__law_same "_law_same" (defScope (top 27)) f cdv A outer s H E) 3)
    (hp : PassesOwn (model P w) (cxOf (L2.CX P w) P w K mg base n__law_same "_law_same" (defScope (top 27)) f cdv A outer s H E).A (cxOf (L2.CX P w) P w K mg base n__law_same "_law_same" (defScope (top 27)) f cdv A outer s H E).env (cxOf (L2.CX P w) P w K mg base n__law_same "_law_same" (defScope (top 27)) f cdv A outer s H E).xe) : PSs (cxOf (L2.CX P w) P w K mg base n__law_same "_law_same" (defScope (top 27)) f cdv A outer s H E) (defBody (top 27)) (rdSs ⟨G18, T, p, L, 20⟩ Fe W K mg b__law_same) := by (
      refine s_cons ?_ ?_; refine s_ret ?_; refine k_cmp (o := Co.eq) g ?_ ?_ (by exact rfl); refine r_b g ?_; refine r_c g ?_ ?_; exact r_v g
      refine a_nil g; refine r_b g ?_; refine r_c g ?_ ?_; exact r_v g; refine a_nil g; refine s_nil)
theorem w__law_is_whole {P : Program} {w : World} {K : PySem.W.Frag} {mg : Str → Option Value} {base : Heap} {f : Addr} (cdv : Value) (A : Around) (outer : List Env) (s : Shared) (H : Hp) (E : XK) (T : Tb) (p : Option Addr) (L : Ls) (Fe : Addr → Prop) (W : WX) (wc : ∀ cls d σ σ' H, W cls d σ H → W cls d σ' H) (g : Good ⟨G19, T, p, L, 20⟩ W (cxOf (L2.CX P w) P w K mg base n__law_is_whole "_law_is_whole" (defScope (top 28)) f cdv A outer s H E) 3)
    (hp : PassesOwn (model P w) (cxOf (L2.CX P w) P w K mg base n__law_is_whole "_law_is_whole" (defScope (top 28)) f cdv A outer s H E).A (cxOf (L2.CX P w) P w K mg base n__law_is_whole "_law_is_whole" (defScope (top 28)) f cdv A outer s H E).env (cxOf (L2.CX P w) P w K mg base n__law_is_whole "_law_is_whole" (defScope (top 28)) f cdv A outer s H E).xe) : PSs (cxOf (L2.CX P w) P w K mg base n__law_is_whole "_law_is_whole" (defScope (top 28)) f cdv A outer s H E) (defBody (top 28)) (rdSs ⟨G19, T, p, L, 20⟩ Fe W K mg b__law_is_whole) := by (
      refine s_cons ?_ ?_; refine s_ret ?_; refine k_and g ?_ ?_
      refine k_isi g (by exact rfl) (by exact rfl) (w_free g (by exact rfl) (by exact rfl) (by exact rfl) (by exact rfl) (by exact rfl)) (w_free g (by exact rfl) (by exact rfl) (by exact rfl) (by exact rfl) (by exact rfl)) ?_ (by exact rfl)
      exact r_v g; refine e_one ?_; refine k_not g ?_
      refine k_isi g (by exact rfl) (by exact rfl) (w_free g (by exact rfl) (by exact rfl) (by exact rfl) (by exact rfl) (by exact rfl)) (w_free g (by exact rfl) (by exact rfl) (by exact rfl) (by exact rfl) (by exact rfl)) ?_ (by exact rfl)
      exact r_v g; refine s_nil)
theorem w__law_all_pairs {P : Program} {w : World} {K : PySem.W.Frag} {mg : Str → Option Value} {base : Heap} {f : Addr} (cdv : Value) (A : Around) (outer : List Env) (s : Shared) (H : Hp) (E : XK) (T : Tb) (p : Option Addr) (L : Ls) (Fe : Addr → Prop) (W : WX) (wc : ∀ cls d σ σ' H, W cls d σ H → W cls d σ' H) (g : Good ⟨G20, T, p, L, 20⟩ W (cxOf (L2.CX P w) P w K mg base n__law_all_pairs "_law_all_pairs" (defScope (top 29)) f cdv A outer s H E) 3)
    (hp : PassesOwn (model P w) (cxOf (L2.CX P w) P w K mg base n__law_all_pairs "_law_all_pairs" (defScope (top 29)) f cdv A outer s H E).A (cxOf (L2.CX P w) P w K mg base n__law_all_pairs "_law_all_pairs" (defScope (top 29)) f cdv A outer s H E).env (cxOf (L2.CX P w) P w K mg base n__law_all_pairs "_law_all_pairs" (defScope (top 29)) f cdv A outer s H E).xe) : PSs (cxOf (L2.CX P w) P w K mg base n__law_all_pairs "_law_all_pairs" (defScope (top 29)) f cdv A outer s H E) (defBody (top 29)) (rdSs ⟨G20, T, p, L, 20⟩ Fe W K mg b__law_all_pairs) := by (
      refine s_cons ?_ ?_; refine s_setG g.nd (by exact rfl) (loc_of (by exact rfl)) (.inl (by exact rfl)) ?_ (by exact rfl) (fun _ _ _ => own_read)
      refine k_lst g ?_; refine a_nil g; refine s_cons ?_ ?_; refine s_for g hp ?_ ?_ ?_ (fun _ => (by exact rfl))
      refine i_rng (w_free g (by exact rfl) (by exact rfl) (by exact rfl) (by exact rfl) (by exact rfl)) ?_
      refine rg_1 g (w_free g (by exact rfl) (by exact rfl) (by exact rfl) (by exact rfl) (by exact rfl)) ?_ (by exact rfl); exact r_v g
      exact pg_name g.nd (by exact rfl) (loc_of (by exact rfl)) (by first | exact .inl (by exact rfl) | exact .inr (by exact rfl)); refine s_cons ?_ ?_
      refine s_ext g (by exact rfl) (vis_of (by exact rfl)) (by exact rfl) (by exact rfl) ?_ (by exact rfl) (by exact rfl) (by exact rfl) (by exact rfl) (by exact rfl)
      refine w_lc g ?_ (blkOk_by (by kernel_rfl)) (by decide) (fun s H C cl fp g => ?_) (fun s H C cl fp g => ?_) (fun s H C cl fp g => ?_) (fun _ => (by exact rfl))
      refine i_rng (w_free g (by exact rfl) (by exact rfl) (by exact rfl) (by exact rfl) (by exact rfl)) ?_
      refine rg_2 g (w_free g (by exact rfl) (by exact rfl) (by exact rfl) (by exact rfl) (by exact rfl)) ?_ ?_ (by exact rfl) (by exact rfl)
      refine k_bin (o := Bo.add) g ?_ ?_; exact r_v g; refine k_int g; exact r_v g
      exact pg_name g.nd (by exact rfl) (loc_of (by exact rfl)) (by first | exact .inl (by exact rfl) | exact .inr (by exact rfl)); refine ts_no
      refine k_tup g ?_; refine r_c g ?_ ?_; exact r_v g; refine r_c g ?_ ?_; exact r_v g; refine a_nil g; refine s_nil; refine s_cons ?_ ?_
      refine s_ret ?_; exact r_v g; refine s_nil)
theorem w__law_some_pairs {P : Program} {w : World} {K : PySem.W.Frag} {mg : Str → Option Value} {base : Heap} {f : Addr} (cdv : Value) (A : Around) (outer : List Env) (s : Shared) (H : Hp) (E : XK) (T : Tb) (p : Option Addr) (L : Ls) (Fe : Addr → Prop) (W : WX) (wc : ∀ cls d σ σ' H, W cls d σ H → W cls d σ' H) (g : Good ⟨G21, T, p, L, 20⟩ W (cxOf (L2.CX P w) P w K mg base n__law_some_pairs "_law_some_pairs" (defScope (top 30)) f cdv A outer s H E) 4)
    (hp : PassesOwn (model P w) (cxOf (L2.CX P w) P w K mg base n__law_some_pairs "_law_some_pairs" (defScope (top 30)) f cdv A outer s H E).A (cxOf (L2.CX P w) P w K mg base n__law_some_pairs "_law_some_pairs" (defScope (top 30)) f cdv A outer s H E).env (cxOf (L2.CX P w) P w K mg base n__law_some_pairs "_law_some_pairs" (defScope (top 30)) f cdv A outer s H E).xe) : PSs (cxOf (L2.CX P w) P w K mg base n__law_some_pairs "_law_some_pairs" (defScope (top 30)) f cdv A outer s H E) (defBody (top 30)) (rdSs ⟨G21, T, p, L, 20⟩ Fe W K mg b__law_some_pairs) := by (
      refine s_cons ?_ ?_; refine r_a g ?_; refine k_bin (o := Bo.add) g ?_ ?_; refine k_int g; refine r_f g ?_; refine r_c g ?_ ?_; exact r_v g
      refine r_c g ?_ ?_; refine k_int g; refine a_nil g; refine s_cons ?_ ?_; refine s_ret ?_; refine r_b g ?_; refine r_c g ?_ ?_
      refine w_lc g ?_ (blkOk_by (by kernel_rfl)) (by decide) (fun s H C cl fp g => ?_) (fun s H C cl fp g => ?_) (fun s H C cl fp g => ?_) (fun _ => (by exact rfl))
      refine i_seq g ?_; refine r_f g ?_; refine r_c g ?_ ?_; exact r_v g; refine a_nil g
      exact pg_name g.nd (by exact rfl) (loc_of (by exact rfl)) (by first | exact .inl (by exact rfl) | exact .inr (by exact rfl)); refine ts_so ?_
      refine r_t (o := .lt) g ?_ ?_; refine r_f g ?_; refine r_c g ?_ ?_; exact r_v g; refine r_c g ?_ ?_; refine k_int g; refine a_nil g; exact r_v g
      exact r_v g; refine a_nil g; refine s_nil)
theorem w__law_pair {P : Program} {w : World} {K : PySem.W.Frag} {mg : Str → Option Value} {base : Heap} {f : Addr} (cdv : Value) (A : Around) (outer : List Env) (s : Shared) (H : Hp) (E : XK) (T : Tb) (p : Option Addr) (L : Ls) (Fe : Addr → Prop) (W : WX) (wc : ∀ cls d σ σ' H, W cls d σ H → W cls d σ' H) (g : Good ⟨G22, T, p, L, 20⟩ W (cxOf (L2.CX P w) P w K mg base n__law_pair "_law_pair" (defScope (top 31)) f cdv A outer s H E) 3)
    (hp : PassesOwn (model P w) (cxOf (L2.CX P w) P w K mg base n__law_pair "_law_pair" (defScope (top 31)) f cdv A outer s H E).A (cxOf (L2.CX P w) P w K mg base n__law_pair "_law_pair" (defScope (top 31)) f cdv A outer s H E).env (cxOf (L2.CX P w) P w K mg base n__law_pair "_law_pair" (defScope (top 31)) f cdv A outer s H E).xe) : PSs (cxOf (L2.CX P w) P w K mg base n__law_pair "_law_pair" (defScope (top 31)) f cdv A outer s H E) (defBody (top 31)) (rdSs ⟨G22, T, p, L, 20⟩ Fe W K mg b__law_pair) := by (
      refine s_cons ?_ ?_; refine s_ret ?_; refine k_tup g ?_; refine r_c g ?_ ?_; refine r_b g ?_; refine r_c g ?_ ?_; exact r_v g; refine r_c g ?_ ?_
      exact r_v g; refine a_nil g; refine r_c g ?_ ?_; refine r_b g ?_; refine r_c g ?_ ?_; exact r_v g; refine r_c g ?_ ?_; exact r_v g; refine a_nil g
      refine a_nil g; refine s_nil)
theorem w__law_built {P : Program} {w : World} {K : PySem.W.Frag} {mg : Str → Option Value} {base : Heap} {f : Addr} (cdv : Value) (A : Around) (outer : List Env) (s : Shared) (H : Hp) (E : XK) (T : Tb) (p : Option Addr) (L : Ls) (Fe : Addr → Prop) (W : WX) (wc : ∀ cls d σ σ' H, W cls d σ H → W cls d σ' H) (g : Good ⟨G23, T, p, L, 20⟩ W (cxOf (L2.CX P w) P w K mg base n__law_built "_law_built" (defScope (top 32)) f cdv A outer s H E) 4)
    (hp : PassesOwn (model P w) (cxOf (L2.CX P w) P w K mg base n__law_built "_law_built" (defScope (top 32)) f cdv A outer s H E).A (cxOf (L2.CX P w) P w K mg base n__law_built "_law_built" (defScope (top 32)) f cdv A outer s H E).env (cxOf (L2.CX P w) P w K mg base n__law_built "_law_built" (defScope (top 32)) f cdv A outer s H E).xe) : PSs (cxOf (L2.CX P w) P w K mg base n__law_built "_law_built" (defScope (top 32)) f cdv A outer s H E) (defBody (top 32)) (rdSs ⟨G23, T, p, L, 20⟩ Fe W K mg b__law_built) := by (
      refine s_cons ?_ ?_; refine s_if ?_ ?_ ?_; refine t_of ?_; refine q_or ?_ ?_; refine t_not ?_; refine t_val ?_ (fun _ => (by exact rfl))
      refine w_isLT g (w_free g (by exact rfl) (by exact rfl) (by exact rfl) (by exact rfl) (by exact rfl)) (w_free g (by exact rfl) (by exact rfl) (by exact rfl) (by exact rfl) (by exact rfl)) (w_free g (by exact rfl) (by exact rfl) (by exact rfl) (by exact rfl) (by exact rfl)) ?_ (by exact rfl)
      exact r_v g; refine q_one_or ?_; refine r_t (o := .ne) g ?_ ?_; refine r_b g ?_; refine r_c g ?_ ?_; exact r_v g; refine a_nil g; exact r_v g
      refine s_cons ?_ ?_; refine s_ret ?_; refine k_none g; refine s_nil; refine s_nil; refine s_cons ?_ ?_
      refine s_parG g ?_ ?_ (by exact rfl) (by exact rfl) (by exact rfl) (by exact rfl) (by exact rfl) (by decide)
      refine gs_cons (pg_name g.nd (by exact rfl) (loc_of (by exact rfl)) (by first | exact .inl (by exact rfl) | exact .inr (by exact rfl))) ?_ (by exact rfl)
      refine gs_cons (pg_name g.nd (by exact rfl) (loc_of (by exact rfl)) (by first | exact .inl (by exact rfl) | exact .inr (by exact rfl))) ?_ (by exact rfl)
      exact gs_nil; refine r_c g ?_ ?_; refine k_lst g ?_; refine a_nil g; refine r_c g ?_ ?_; refine k_lst g ?_; refine a_nil g; refine a_nil g
      refine s_cons ?_ ?_; refine s_for g hp ?_ ?_ ?_ (fun _ => (by exact rfl))
      refine i_enum g (w_free g (by exact rfl) (by exact rfl) (by exact rfl) (by exact rfl) (by exact rfl)) ?_ (by exact rfl); exact r_v g
      refine g_tup g.calm ?_ (by exact rfl) (by exact rfl)
      refine gs_cons (pg_name g.nd (by exact rfl) (loc_of (by exact rfl)) (by first | exact .inl (by exact rfl) | exact .inr (by exact rfl))) ?_ (by exact rfl)
      refine gs_cons (pg_name g.nd (by exact rfl) (loc_of (by exact rfl)) (by first | exact .inl (by exact rfl) | exact .inr (by exact rfl))) ?_ (by exact rfl)
      exact gs_nil; refine s_cons ?_ ?_; refine s_if ?_ ?_ ?_; refine t_of ?_; refine q_or ?_ ?_; refine t_not ?_; refine t_val ?_ (fun _ => (by exact rfl))
      refine k_isi g (by exact rfl) (by exact rfl) (w_free g (by exact rfl) (by exact rfl) (by exact rfl) (by exact rfl) (by exact rfl)) (w_free g (by exact rfl) (by exact rfl) (by exact rfl) (by exact rfl) (by exact rfl)) ?_ (by exact rfl)
      exact r_v g; refine q_or ?_ ?_; refine r_t (o := .ne) g ?_ ?_; refine r_b g ?_; refine r_c g ?_ ?_; exact r_v g; refine a_nil g; refine k_int g
      refine q_or ?_ ?_; refine t_not ?_; refine t_val ?_ (fun _ => (by exact rfl)); refine r_f g ?_; refine r_c g ?_ ?_; refine r_i g ?_ ?_; exact r_v g
      refine k_int g; refine a_nil g; refine q_or ?_ ?_; refine t_not ?_; refine k_cmp2T (o := Co.le) (o' := Co.lt) g ?_ ?_ ?_ (by exact rfl)
      refine k_int g; refine r_i g ?_ ?_; exact r_v g; refine k_int g; exact r_v g; refine q_or ?_ ?_; refine r_t (o := .isin) g ?_ ?_; refine r_i g ?_ ?_
      exact r_v g; refine k_int g; exact r_v g; refine q_one_or ?_; refine t_not ?_; refine t_val ?_ (fun _ => (by exact rfl))
      refine k_isi g (by exact rfl) (by exact rfl) (w_free g (by exact rfl) (by exact rfl) (by exact rfl) (by exact rfl) (by exact rfl)) (w_free g (by exact rfl) (by exact rfl) (by exact rfl) (by exact rfl) (by exact rfl)) ?_ (by exact rfl)
      refine r_i g ?_ ?_; exact r_v g; refine k_int g; refine s_cons ?_ ?_; refine s_ret ?_; refine k_none g; refine s_nil; refine s_nil
      refine s_cons ?_ ?_; refine s_asgT ?_ ?_ (by exact rfl) (by exact rfl) (by exact rfl); exact r_v g
      refine g_tup g.calm ?_ (by exact rfl) (by exact rfl)
      refine gs_cons (pg_name g.nd (by exact rfl) (loc_of (by exact rfl)) (by first | exact .inl (by exact rfl) | exact .inr (by exact rfl))) ?_ (by exact rfl)
      refine gs_cons (pg_name g.nd (by exact rfl) (loc_of (by exact rfl)) (by first | exact .inl (by exact rfl) | exact .inr (by exact rfl))) ?_ (by exact rfl)
      refine gs_cons (pg_name g.nd (by exact rfl) (loc_of (by exact rfl)) (by first | exact .inl (by exact rfl) | exact .inr (by exact rfl))) ?_ (by exact rfl)
      exact gs_nil; refine s_cons ?_ ?_; refine s_if ?_ ?_ ?_; refine t_of ?_; refine q_or ?_ ?_; refine t_not ?_; refine t_val ?_ (fun _ => (by exact rfl))
      refine r_b g ?_; refine r_c g ?_ ?_
      refine w_lc g ?_ (blkOk_by (by kernel_rfl)) (by decide) (fun s H C cl fp g => ?_) (fun s H C cl fp g => ?_) (fun s H C cl fp g => ?_) (fun _ => (by exact rfl))
      refine i_seq g ?_; exact r_v g
      exact pg_name g.nd (by exact rfl) (loc_of (by exact rfl)) (by first | exact .inl (by exact rfl) | exact .inr (by exact rfl)); refine ts_no
      refine k_and g ?_ ?_; refine r_f g ?_; refine r_c g ?_ ?_; exact r_v g; refine a_nil g; refine e_one ?_
      refine k_cmp (o := Co.isin) g ?_ ?_ (by exact rfl); exact r_v g; exact r_v g; refine a_nil g; refine q_one_or ?_; refine r_t (o := .ne) g ?_ ?_
      refine r_b g ?_; refine r_c g ?_ ?_; exact r_v g; refine a_nil g
      refine k_sset g (w_free g (by exact rfl) (by exact rfl) (by exact rfl) (by exact rfl) (by exact rfl)) (w_free g (by exact rfl) (by exact rfl) (by exact rfl) (by exact rfl) (by exact rfl)) ?_ (by exact rfl)
      exact r_v g; refine s_cons ?_ ?_; refine s_ret ?_; refine k_none g; refine s_nil; refine s_nil; refine s_cons ?_ ?_; refine s_if ?_ ?_ ?_
      refine t_isN g ?_ (by exact rfl); exact r_v g; refine s_cons ?_ ?_; refine s_if ?_ ?_ ?_; refine r_t (o := .ne) g ?_ ?_; refine r_b g ?_
      refine r_c g ?_ ?_; exact r_v g; refine a_nil g; refine r_b g ?_; refine r_c g ?_ ?_; exact r_v g; refine r_c g ?_ ?_; refine k_int g; refine a_nil g
      refine s_cons ?_ ?_; refine s_ret ?_; refine k_none g; refine s_nil; refine s_nil; refine s_nil; refine s_cons ?_ ?_; refine s_if ?_ ?_ ?_
      refine t_of ?_; refine q_or ?_ ?_; refine r_t (o := .lt) g ?_ ?_; exact r_v g; refine k_int g; refine q_or ?_ ?_; refine r_t (o := .ne) g ?_ ?_
      refine r_b g ?_; refine r_c g ?_ ?_; exact r_v g; refine a_nil g; refine k_int g; refine q_or ?_ ?_; refine t_not ?_
      refine t_val ?_ (fun _ => (by exact rfl))
      refine k_isi g (by exact rfl) (by exact rfl) (w_free g (by exact rfl) (by exact rfl) (by exact rfl) (by exact rfl) (by exact rfl)) (w_free g (by exact rfl) (by exact rfl) (by exact rfl) (by exact rfl) (by exact rfl)) ?_ (by exact rfl)
      exact r_v g; refine q_or ?_ ?_; refine r_t (o := .ne) g ?_ ?_; refine r_b g ?_; refine r_c g ?_ ?_; exact r_v g; refine a_nil g; refine k_int g
      refine q_or ?_ ?_; refine t_not ?_; refine t_val ?_ (fun _ => (by exact rfl)); refine r_b g ?_; refine r_c g ?_ ?_
      refine w_lc g ?_ (blkOk_by (by kernel_rfl)) (by decide) (fun s H C cl fp g => ?_) (fun s H C cl fp g => ?_) (fun s H C cl fp g => ?_) (fun _ => (by exact rfl))
      refine i_seq g ?_; exact r_v g
      exact pg_name g.nd (by exact rfl) (loc_of (by exact rfl)) (by first | exact .inl (by exact rfl) | exact .inr (by exact rfl)); refine ts_no
      refine k_and g ?_ ?_; refine r_f g ?_; refine r_c g ?_ ?_; exact r_v g; refine a_nil g; refine e_one ?_
      refine k_cmp (o := Co.isin) g ?_ ?_ (by exact rfl); exact r_v g; exact r_v g; refine a_nil g; refine q_one_or ?_; refine r_t (o := .notin) g ?_ ?_
      exact r_v g; exact r_v g; refine s_cons ?_ ?_; refine s_ret ?_; refine k_none g; refine s_nil; refine s_nil; refine s_cons ?_ ?_
      refine w_setL g (by exact rfl) (by exact rfl) (by exact rfl) ?_ (blkOk_by (by kernel_rfl)) (by decide) (fun s H C cl fp g => ?_) (fun s H C cl fp g => ?_) (fun s H C cl fp g => ?_) (fun _ => (by exact rfl)) (fun _ _ _ => asg_read)
      refine i_seq g ?_; exact r_v g
      exact pg_name g.nd (by exact rfl) (loc_of (by exact rfl)) (by first | exact .inl (by exact rfl) | exact .inr (by exact rfl)); refine ts_so ?_
      refine r_t (o := .ne) g ?_ ?_; exact r_v g; exact r_v g; exact r_v g; refine s_nil; refine s_cons ?_ ?_; refine r_a g ?_
      refine k_bin (o := Bo.add) g ?_ ?_; exact r_v g
      refine w_lc g ?_ (blkOk_by (by kernel_rfl)) (by decide) (fun s H C cl fp g => ?_) (fun s H C cl fp g => ?_) (fun s H C cl fp g => ?_) (fun _ => (by exact rfl))
      refine i_seq g ?_; exact r_v g
      exact pg_name g.nd (by exact rfl) (loc_of (by exact rfl)) (by first | exact .inl (by exact rfl) | exact .inr (by exact rfl)); refine ts_no
      refine r_f g ?_; refine r_c g ?_ ?_; exact r_v g; refine r_c g ?_ ?_; exact r_v g; refine a_nil g; refine s_cons ?_ ?_; refine r_a g ?_
      refine k_bin (o := Bo.add) g ?_ ?_; exact r_v g; refine k_lst g ?_; refine r_c g ?_ ?_; exact r_v g; refine a_nil g; refine s_nil; refine s_cons ?_ ?_
      refine s_ret ?_; refine r_b g ?_; refine r_c g ?_ ?_; refine r_b g ?_; refine r_c g ?_ ?_; exact r_v g; refine a_nil g; refine a_nil g; refine s_nil)
theorem w__law_drawn_row {P : Program} {w : World} {K : PySem.W.Frag} {mg : Str → Option Value} {base : Heap} {f : Addr} (cdv : Value) (A : Around) (outer : List Env) (s : Shared) (H : Hp) (E : XK) (T : Tb) (p : Option Addr) (L : Ls) (Fe : Addr → Prop) (W : WX) (wc : ∀ cls d σ σ' H, W cls d σ H → W cls d σ' H) (g : Good ⟨G24, T, p, L, 20⟩ W (cxOf (L2.CX P w) P w K mg base n__law_drawn_row "_law_drawn_row" (defScope (top 33)) f cdv A outer s H E) 5)
    (hp : PassesOwn (model P w) (cxOf (L2.CX P w) P w K mg base n__law_drawn_row "_law_drawn_row" (defScope (top 33)) f cdv A outer s H E).A (cxOf (L2.CX P w) P w K mg base n__law_drawn_row "_law_drawn_row" (defScope (top 33)) f cdv A outer s H E).env (cxOf (L2.CX P w) P w K mg base n__law_drawn_row "_law_drawn_row" (defScope (top 33)) f cdv A outer s H E).xe) : PSs (cxOf (L2.CX P w) P w K mg base n__law_drawn_row "_law_drawn_row" (defScope (top 33)) f cdv A outer s H E) (defBody (top 33)) (rdSs ⟨G24, T, p, L, 20⟩ Fe W K mg b__law_drawn_row) := by (
      refine s_cons ?_ ?_; refine r_a g ?_; refine r_b g ?_; refine r_c g ?_ ?_; refine r_f g ?_; refine r_c g ?_ ?_; exact r_v g; refine r_c g ?_ ?_
      refine k_lrg g (w_free g (by exact rfl) (by exact rfl) (by exact rfl) (by exact rfl) (by exact rfl)) ?_ (by exact rfl)
      refine rg_1 g (w_free g (by exact rfl) (by exact rfl) (by exact rfl) (by exact rfl) (by exact rfl)) ?_ (by exact rfl); exact r_v g; refine a_nil g
      refine a_nil g; refine s_cons ?_ ?_
      refine s_par2 g (by exact rfl) (by exact rfl) (by decide) (by exact rfl) (by exact rfl) ?_ (by exact rfl) (by exact rfl); refine r_c g ?_ ?_
      refine k_lst g ?_; refine a_nil g; refine r_c g ?_ ?_; refine k_lst g ?_; refine a_nil g; refine a_nil g; refine s_cons ?_ ?_
      refine s_for g hp ?_ ?_ ?_ (fun _ => (by exact rfl))
      refine i_enum g (w_free g (by exact rfl) (by exact rfl) (by exact rfl) (by exact rfl) (by exact rfl)) ?_ (by exact rfl); exact r_v g
      refine g_tup g.calm ?_ (by exact rfl) (by exact rfl)
      refine gs_cons (pg_name g.nd (by exact rfl) (loc_of (by exact rfl)) (by first | exact .inl (by exact rfl) | exact .inr (by exact rfl))) ?_ (by exact rfl)
      refine gs_cons (pg_name g.nd (by exact rfl) (loc_of (by exact rfl)) (by first | exact .inl (by exact rfl) | exact .inr (by exact rfl))) ?_ (by exact rfl)
      exact gs_nil; refine s_cons ?_ ?_; refine s_parG g ?_ ?_ (by exact rfl) (by exact rfl) (by exact rfl) (by exact rfl) (by exact rfl) (by decide)
      refine gs_cons (pg_name g.nd (by exact rfl) (loc_of (by exact rfl)) (by first | exact .inl (by exact rfl) | exact .inr (by exact rfl))) ?_ (by exact rfl)
      refine gs_cons (pg_name g.nd (by exact rfl) (loc_of (by exact rfl)) (by first | exact .inl (by exact rfl) | exact .inr (by exact rfl))) ?_ (by exact rfl)
      exact gs_nil; refine r_c g ?_ ?_; refine r_b g ?_; refine r_c g ?_ ?_; refine r_b g ?_; refine r_c g ?_ ?_; refine k_slc g ?_ ?_ ?_; refine r_f g ?_
      refine r_c g ?_ ?_; exact r_v g; refine r_c g ?_ ?_; refine k_slc g ?_ ?_ ?_; exact r_v g; refine o_no g; refine o_so g ?_; exact r_v g
      refine a_nil g; refine o_no g; refine o_so g ?_; refine k_int g; refine a_nil g; refine a_nil g; refine r_c g ?_ ?_; refine k_none g; refine a_nil g
      refine s_cons ?_ ?_; refine s_if ?_ ?_ ?_; refine t_of ?_; refine q_and ?_ ?_; refine r_t (o := .gt) g ?_ ?_; exact r_v g; refine k_int g
      refine q_one_and ?_; refine r_t (o := .eq) g ?_ ?_; refine r_f g ?_; refine r_c g ?_ ?_; exact r_v g; refine r_c g ?_ ?_; refine k_int g
      refine a_nil g; refine k_int g; refine s_cons ?_ ?_; refine r_a g ?_; refine r_b g ?_; refine r_c g ?_ ?_; refine r_b g ?_; refine r_c g ?_ ?_
      refine k_slc g ?_ ?_ ?_; refine r_f g ?_; refine r_c g ?_ ?_; exact r_v g; refine r_c g ?_ ?_; refine k_slc g ?_ ?_ ?_; exact r_v g; refine o_no g
      refine o_so g ?_; exact r_v g; refine a_nil g; refine o_no g; refine o_so g ?_; refine k_int g; refine a_nil g; refine a_nil g; refine s_cons ?_ ?_
      refine w_setL g (by exact rfl) (by exact rfl) (by exact rfl) ?_ (blkOk_by (by kernel_rfl)) (by decide) (fun s H C cl fp g => ?_) (fun s H C cl fp g => ?_) (fun s H C cl fp g => ?_) (fun _ => (by exact rfl)) (fun _ _ _ => asg_read)
      refine i_seq g ?_; exact r_v g
      exact pg_name g.nd (by exact rfl) (loc_of (by exact rfl)) (by first | exact .inl (by exact rfl) | exact .inr (by exact rfl)); refine ts_so ?_
      refine t_of ?_; refine q_and ?_ ?_; refine r_t (o := .isin) g ?_ ?_; refine r_i g ?_ ?_; exact r_v g; refine k_int g; exact r_v g; refine q_one_and ?_
      refine r_t (o := .isin) g ?_ ?_; refine r_i g ?_ ?_; exact r_v g; refine k_int g; exact r_v g; exact r_v g; refine s_cons ?_ ?_; refine s_if ?_ ?_ ?_
      refine r_t (o := .ne) g ?_ ?_; exact r_v g; refine k_lst g ?_; refine a_nil g; refine s_cons ?_ ?_
      refine s_parG g ?_ ?_ (by exact rfl) (by exact rfl) (by exact rfl) (by exact rfl) (by exact rfl) (by decide)
      refine gs_cons (pg_name g.nd (by exact rfl) (loc_of (by exact rfl)) (by first | exact .inl (by exact rfl) | exact .inr (by exact rfl))) ?_ (by exact rfl)
      refine gs_cons (pg_name g.nd (by exact rfl) (loc_of (by exact rfl)) (by first | exact .inl (by exact rfl) | exact .inr (by exact rfl))) ?_ (by exact rfl)
      exact gs_nil; refine r_c g ?_ ?_; exact r_v g; refine r_c g ?_ ?_; refine r_f g ?_; refine r_c g ?_ ?_; exact r_v g; refine r_c g ?_ ?_; exact r_v g
      refine a_nil g; refine a_nil g; refine s_nil; refine s_nil; refine s_nil; refine s_nil; refine s_cons ?_ ?_
      refine s_app g (by exact rfl) (vis_of (by exact rfl)) (by exact rfl) (by exact rfl) ?_ (by exact rfl) (by exact rfl) (by exact rfl) (by exact rfl) (by exact rfl)
      refine k_tup g ?_; refine r_c g ?_ ?_; exact r_v g; refine r_c g ?_ ?_; exact r_v g; refine r_c g ?_ ?_; exact r_v g; refine a_nil g
      refine s_cons ?_ ?_; refine r_a g ?_; refine k_bin (o := Bo.add) g ?_ ?_
      refine w_lc g ?_ (blkOk_by (by kernel_rfl)) (by decide) (fun s H C cl fp g => ?_) (fun s H C cl fp g => ?_) (fun s H C cl fp g => ?_) (fun _ => (by exact rfl))
      refine i_seq g ?_; exact r_v g
      exact pg_name g.nd (by exact rfl) (loc_of (by exact rfl)) (by first | exact .inl (by exact rfl) | exact .inr (by exact rfl)); refine ts_so ?_
      refine r_t (o := .ne) g ?_ ?_; exact r_v g; exact r_v g; exact r_v g
      refine w_lc g ?_ (blkOk_by (by kernel_rfl)) (by decide) (fun s H C cl fp g => ?_) (fun s H C cl fp g => ?_) (fun s H C cl fp g => ?_) (fun _ => (by exact rfl))
      refine i_seq g ?_; exact r_v g
      exact pg_name g.nd (by exact rfl) (loc_of (by exact rfl)) (by first | exact .inl (by exact rfl) | exact .inr (by exact rfl)); refine ts_no
      refine r_f g ?_; refine r_c g ?_ ?_; exact r_v g; refine r_c g ?_ ?_; exact r_v g; refine a_nil g; refine s_nil; refine s_cons ?_ ?_; refine s_ret ?_
      exact r_v g; refine s_nil)
theorem w__law_bent {P : Program} {w : World} {K : PySem.W.Frag} {mg : Str → Option Value} {base : Heap} {f : Addr} (cdv : Value) (A : Around) (outer : List Env) (s : Shared) (H : Hp) (E : XK) (T : Tb) (p : Option Addr) (L : Ls) (Fe : Addr → Prop) (W : WX) (wc : ∀ cls d σ σ' H, W cls d σ H → W cls d σ' H) (g : Good ⟨G25, T, p, L, 20⟩ W (cxOf (L2.CX P w) P w K mg base n__law_bent "_law_bent" (defScope (top 34)) f cdv A outer s H E) 4)
    (hp : PassesOwn (model P w) (cxOf (L2.CX P w) P w K mg base n__law_bent "_law_bent" (defScope (top 34)) f cdv A outer s H E).A (cxOf (L2.CX P w) P w K mg base n__law_bent "_law_bent" (defScope (top 34)) f cdv A outer s H E).env (cxOf (L2.CX P w) P w K mg base n__law_bent "_law_bent" (defScope (top 34)) f cdv A outer s H E).xe) : PSs (cxOf (L2.CX P w) P w K mg base n__law_bent "_law_bent" (defScope (top 34)) f cdv A outer s H E) (defBody (top 34)) (rdSs ⟨G25, T, p, L, 20⟩ Fe W K mg b__law_bent) := by (
      refine s_cons ?_ ?_; refine r_a g ?_; refine r_f g ?_; refine r_c g ?_ ?_; exact r_v g; refine r_c g ?_ ?_; exact r_v g; refine a_nil g
      refine s_cons ?_ ?_; refine s_asgT ?_ ?_ (by exact rfl) (by exact rfl) (by exact rfl); refine r_i g ?_ ?_; exact r_v g; exact r_v g
      refine g_tup g.calm ?_ (by exact rfl) (by exact rfl)
      refine gs_cons (pg_name g.nd (by exact rfl) (loc_of (by exact rfl)) (by first | exact .inl (by exact rfl) | exact .inr (by exact rfl))) ?_ (by exact rfl)
      refine gs_cons (pg_name g.nd (by exact rfl) (loc_of (by exact rfl)) (by first | exact .inl (by exact rfl) | exact .inr (by exact rfl))) ?_ (by exact rfl)
      refine gs_cons (pg_name g.nd (by exact rfl) (loc_of (by exact rfl)) (by first | exact .inl (by exact rfl) | exact .inr (by exact rfl))) ?_ (by exact rfl)
      exact gs_nil; refine s_cons ?_ ?_; refine r_a g ?_; refine k_lst g ?_; refine r_c g ?_ ?_; exact r_v g; refine r_c g ?_ ?_; refine r_b g ?_
      refine r_c g ?_ ?_; exact r_v g; refine a_nil g; refine r_c g ?_ ?_; refine k_rev g ?_; exact r_v g; refine r_c g ?_ ?_; refine k_slc g ?_ ?_ ?_
      exact r_v g; refine o_no g; refine o_so g ?_; refine k_neg g ?_; refine k_int g; refine r_c g ?_ ?_; refine k_bin (o := Bo.add) g ?_ ?_; exact r_v g
      refine k_slc g ?_ ?_ ?_; exact r_v g; refine o_no g; refine o_so g ?_; refine k_int g; refine r_c g ?_ ?_; refine k_bin (o := Bo.add) g ?_ ?_
      refine k_slc g ?_ ?_ ?_; exact r_v g; refine o_so g ?_; refine k_int g; refine o_no g; refine k_slc g ?_ ?_ ?_; exact r_v g; refine o_no g
      refine o_so g ?_; refine k_int g; refine r_c g ?_ ?_; refine k_lst g ?_; refine a_nil g; refine r_c g ?_ ?_; refine k_none g; refine r_c g ?_ ?_
      refine k_int g; refine r_c g ?_ ?_; refine k_str g; refine r_c g ?_ ?_; refine k_dct g; refine a_nil g; refine s_cons ?_ ?_
      refine w_setL g (by exact rfl) (by exact rfl) (by exact rfl) ?_ (blkOk_by (by kernel_rfl)) (by decide) (fun s H C cl fp g => ?_) (fun s H C cl fp g => ?_) (fun s H C cl fp g => ?_) (fun _ => (by exact rfl)) (fun _ _ _ => own_read)
      refine i_seq g ?_; refine k_tup g ?_; refine r_c g ?_ ?_; refine k_rev g ?_; exact r_v g; refine r_c g ?_ ?_; refine k_slc g ?_ ?_ ?_; exact r_v g
      refine o_no g; refine o_so g ?_; refine k_neg g ?_; refine k_int g; refine r_c g ?_ ?_; refine k_bin (o := Bo.add) g ?_ ?_; exact r_v g
      refine k_tup g ?_; refine r_c g ?_ ?_; exact r_v g; refine a_nil g; refine r_c g ?_ ?_; refine k_bin (o := Bo.add) g ?_ ?_; exact r_v g
      refine k_tup g ?_; refine r_c g ?_ ?_; exact r_v g; refine a_nil g; refine r_c g ?_ ?_; refine r_b g ?_; refine r_c g ?_ ?_; exact r_v g
      refine a_nil g; refine r_c g ?_ ?_
      refine k_lrg g (w_free g (by exact rfl) (by exact rfl) (by exact rfl) (by exact rfl) (by exact rfl)) ?_ (by exact rfl)
      refine rg_1 g (w_free g (by exact rfl) (by exact rfl) (by exact rfl) (by exact rfl) (by exact rfl)) ?_ (by exact rfl); exact r_v g; refine r_c g ?_ ?_
      refine k_none g; refine r_c g ?_ ?_; refine k_bin (o := Bo.add) g ?_ ?_; exact r_v g; refine k_slc g ?_ ?_ ?_; exact r_v g; refine o_no g
      refine o_so g ?_; refine k_int g; refine r_c g ?_ ?_; refine k_bin (o := Bo.mul) g ?_ ?_; refine k_tup g ?_; refine r_c g ?_ ?_; refine k_bool g
      refine a_nil g; refine r_b g ?_; refine r_c g ?_ ?_; exact r_v g; refine a_nil g; refine a_nil g
      exact pg_name g.nd (by exact rfl) (loc_of (by exact rfl)) (by first | exact .inl (by exact rfl) | exact .inr (by exact rfl)); refine ts_no
      refine k_tup g ?_; refine r_c g ?_ ?_; exact r_v g; refine r_c g ?_ ?_; exact r_v g; refine r_c g ?_ ?_; exact r_v g; refine a_nil g
      refine s_cons ?_ ?_
      refine s_ext g (by exact rfl) (vis_of (by exact rfl)) (by exact rfl) (by exact rfl) ?_ (by exact rfl) (by exact rfl) (by exact rfl) (by exact rfl) (by exact rfl)
      refine w_lc g ?_ (blkOk_by (by kernel_rfl)) (by decide) (fun s H C cl fp g => ?_) (fun s H C cl fp g => ?_) (fun s H C cl fp g => ?_) (fun _ => (by exact rfl))
      refine i_seq g ?_; refine k_tup g ?_; refine r_c g ?_ ?_; refine k_none g; refine r_c g ?_ ?_; refine k_tup g ?_; refine r_c g ?_ ?_; refine k_int g
      refine r_c g ?_ ?_; refine k_int g; refine a_nil g; refine r_c g ?_ ?_; refine k_slc g ?_ ?_ ?_; exact r_v g; refine o_no g; refine o_so g ?_
      refine k_int g; refine r_c g ?_ ?_; refine k_slc g ?_ ?_ ?_; refine k_rev g ?_; exact r_v g; refine o_no g; refine o_so g ?_; refine k_int g
      refine r_c g ?_ ?_; refine r_i g ?_ ?_; refine k_bin (o := Bo.add) g ?_ ?_; exact r_v g; refine k_tup g ?_; refine r_c g ?_ ?_; refine k_int g
      refine r_c g ?_ ?_; refine k_int g; refine a_nil g; refine k_int g; refine r_c g ?_ ?_; refine k_lst g ?_; refine r_c g ?_ ?_; refine k_int g
      refine r_c g ?_ ?_; refine k_int g; refine a_nil g; refine r_c g ?_ ?_; refine k_tup g ?_; refine r_c g ?_ ?_; refine k_int g; refine r_c g ?_ ?_
      refine k_int g; refine r_c g ?_ ?_; refine k_int g; refine a_nil g; refine r_c g ?_ ?_; refine k_tup g ?_; refine r_c g ?_ ?_; exact r_v g
      refine r_c g ?_ ?_; refine k_int g; refine a_nil g; refine a_nil g
      exact pg_name g.nd (by exact rfl) (loc_of (by exact rfl)) (by first | exact .inl (by exact rfl) | exact .inr (by exact rfl)); refine ts_no
      refine k_tup g ?_; refine r_c g ?_ ?_; exact r_v g; refine r_c g ?_ ?_; exact r_v g; refine r_c g ?_ ?_; exact r_v g; refine a_nil g
      refine s_cons ?_ ?_
      refine s_ext g (by exact rfl) (vis_of (by exact rfl)) (by exact rfl) (by exact rfl) ?_ (by exact rfl) (by exact rfl) (by exact rfl) (by exact rfl) (by exact rfl)
      refine w_lc g ?_ (blkOk_by (by kernel_rfl)) (by decide) (fun s H C cl fp g => ?_) (fun s H C cl fp g => ?_) (fun s H C cl fp g => ?_) (fun _ => (by exact rfl))
      refine i_seq g ?_; refine k_tup g ?_; refine r_c g ?_ ?_; refine k_bin (o := Bo.mod) g ?_ ?_; refine r_b g ?_; refine r_c g ?_ ?_
      refine k_bin (o := Bo.add) g ?_ ?_; exact r_v g; refine k_int g; refine a_nil g; exact r_v g; refine r_c g ?_ ?_; exact r_v g; refine r_c g ?_ ?_
      refine k_neg g ?_; refine k_int g; refine r_c g ?_ ?_; refine k_bool g; refine r_c g ?_ ?_; refine k_none g; refine r_c g ?_ ?_; refine k_tup g ?_
      refine r_c g ?_ ?_; exact r_v g; refine a_nil g; refine a_nil g
      exact pg_name g.nd (by exact rfl) (loc_of (by exact rfl)) (by first | exact .inl (by exact rfl) | exact .inr (by exact rfl)); refine ts_no
      refine k_tup g ?_; refine r_c g ?_ ?_; exact r_v g; refine r_c g ?_ ?_; exact r_v g; refine r_c g ?_ ?_; exact r_v g; refine a_nil g
      refine s_cons ?_ ?_
      refine s_ext g (by exact rfl) (vis_of (by exact rfl)) (by exact rfl) (by exact rfl) ?_ (by exact rfl) (by exact rfl) (by exact rfl) (by exact rfl) (by exact rfl)
      refine k_lst g ?_; refine r_c g ?_ ?_; refine k_tup g ?_; refine r_c g ?_ ?_; exact r_v g; refine r_c g ?_ ?_; exact r_v g; refine a_nil g
      refine r_c g ?_ ?_; refine k_lst g ?_; refine r_c g ?_ ?_; exact r_v g; refine r_c g ?_ ?_; exact r_v g; refine r_c g ?_ ?_; exact r_v g
      refine a_nil g; refine r_c g ?_ ?_; refine k_tup g ?_; refine r_c g ?_ ?_; exact r_v g; refine r_c g ?_ ?_; exact r_v g; refine r_c g ?_ ?_
      exact r_v g; refine r_c g ?_ ?_; refine k_int g; refine a_nil g; refine r_c g ?_ ?_; refine k_none g; refine r_c g ?_ ?_; refine r_i g ?_ ?_
      exact r_v g; refine k_int g; refine a_nil g; refine s_cons ?_ ?_; refine s_ret ?_; refine k_bin (o := Bo.add) g ?_ ?_; exact r_v g
      refine w_lc g ?_ (blkOk_by (by kernel_rfl)) (by decide) (fun s H C cl fp g => ?_) (fun s H C cl fp g => ?_) (fun s H C cl fp g => ?_) (fun _ => (by exact rfl))
      refine i_seq g ?_; exact r_v g
      exact pg_name g.nd (by exact rfl) (loc_of (by exact rfl)) (by first | exact .inl (by exact rfl) | exact .inr (by exact rfl)); refine ts_no
      refine k_bin (o := Bo.add) g ?_ ?_; refine k_bin (o := Bo.add) g ?_ ?_; refine k_slc g ?_ ?_ ?_; exact r_v g; refine o_no g; refine o_so g ?_
      exact r_v g; refine k_lst g ?_; refine r_c g ?_ ?_; exact r_v g; refine a_nil g; refine k_slc g ?_ ?_ ?_; exact r_v g; refine o_so g ?_
      refine k_bin (o := Bo.add) g ?_ ?_; exact r_v g; refine k_int g; refine o_no g; refine s_nil)
theorem w__law_heard {P : Program} {w : World} {K : PySem.W.Frag} {mg : Str → Option Value} {base : Heap} {f : Addr} (cdv : Value) (A : Around) (outer : List Env) (s : Shared) (H : Hp) (E : XK) (T : Tb) (p : Option Addr) (L : Ls) (Fe : Addr → Prop) (W : WX) (wc : ∀ cls d σ σ' H, W cls d σ H → W cls d σ' H) (g : Good ⟨G26, T, p, L, 20⟩ W (cxOf (L2.CX P w) P w K mg base n__law_heard "_law_heard" (defScope (top 35)) f cdv A outer s H E) 21)
    (hp : PassesOwn (model P w) (cxOf (L2.CX P w) P w K mg base n__law_heard "_law_heard" (defScope (top 35)) f cdv A outer s H E).A (cxOf (L2.CX P w) P w K mg base n__law_heard "_law_heard" (defScope (top 35)) f cdv A outer s H E).env (cxOf (L2.CX P w) P w K mg base n__law_heard "_law_heard" (defScope (top 35)) f cdv A outer s H E).xe) : PSs (cxOf (L2.CX P w) P w K mg base n__law_heard "_law_heard" (defScope (top 35)) f cdv A outer s H E) (defBody (top 35)) (rdSs ⟨G26, T, p, L, 20⟩ Fe W K mg b__law_heard) := by (
      refine s_cons ?_ ?_; refine r_a g ?_; refine k_lst g ?_; refine r_c g ?_ ?_; refine k_str g; refine a_nil g; refine s_cons ?_ ?_
      refine s_tryV g (by exact rfl) (by exact rfl) (by exact rfl) wc (by exact rfl) (by exact rfl) (by exact rfl) (by exact rfl) (by decide) (by exact rfl) (by exact rfl) (vis_of (by exact rfl)) (by exact rfl) (by exact rfl) (by exact rfl) (loc_of (by exact rfl)) (.inl (by exact rfl)) (w_free g (by exact rfl) (by exact rfl) (by exact rfl) (by exact rfl) (by exact rfl)) (by exact rfl) (by exact rfl) (by exact rfl) (by exact rfl) (by exact rfl) (fun W' pn xe g hp => ?_)
      refine s_cons ?_ ?_; refine r_a g ?_; refine k_lst g ?_; refine r_c g ?_ ?_; refine k_str g; refine r_c g ?_ ?_
      refine k_callL g (Nat.le_of_ble_eq_true (by exact rfl)) (by exact rfl) (vis_of (by exact rfl)) (by exact rfl) (by exact rfl); refine a_nil g
      refine s_nil; refine s_cons ?_ ?_; refine s_ret ?_; exact r_v g; refine s_nil)
abbrev lams__law_value_right : List LamD := [lamOfS (stAt (defBody (top 36)) [4]), lamOfS (stAt (defBody (top 36)) [5])]
theorem w__law_value_right {P : Program} {w : World} {K : PySem.W.Frag} {mg : Str → Option Value} {base : Heap} {f : Addr} (cdv : Value) (A : Around) (outer : List Env) (s : Shared) (H : Hp) (E : XK) (T : Tb) (p : Option Addr) (L : Ls) (Fe : Addr → Prop) (W : WX) (wc : ∀ cls d σ σ' H, W cls d σ H → W cls d σ' H) (g : Good ⟨G27, T, p, L, 20⟩ W (cxOf (L2.CX P w) P w K mg base n__law_value_right "_law_value_right" (defScope (top 36)) f cdv A outer s H E) 22)
    (hp : PassesOwn (model P w) (cxOf (L2.CX P w) P w K mg base n__law_value_right "_law_value_right" (defScope (top 36)) f cdv A outer s H E).A (cxOf (L2.CX P w) P w K mg base n__law_value_right "_law_value_right" (defScope (top 36)) f cdv A outer s H E).env (cxOf (L2.CX P w) P w K mg base n__law_value_right "_law_value_right" (defScope (top 36)) f cdv A outer s H E).xe) (hC : LamCtx ⟨G27, T, p, L, 20⟩ (cxOf (L2.CX P w) P w K mg base n__law_value_right "_law_value_right" (defScope (top 36)) f cdv A outer s H E)) (hlo : L.lo = loOf lams__law_value_right (cxOf (L2.CX P w) P w K mg base n__law_value_right "_law_value_right" (defScope (top 36)) f cdv A outer s H E)) : PSs (cxOf (L2.CX P w) P w K mg base n__law_value_right "_law_value_right" (defScope (top 36)) f cdv A outer s H E) (defBody (top 36)) (rdSs ⟨G27, T, p, L, 20⟩ Fe W K mg b__law_value_right) := by
  have hLam : LamOk ⟨G27, T, p, L, 20⟩ (cxOf (L2.CX P w) P w K mg base n__law_value_right "_law_value_right" (defScope (top 36)) f cdv A outer s H E) 19 lams__law_value_right ls__law_value_right := lamOk_of (by (
      refine LamsW.cons ?_ ?_
      refine lamOk1_of g (Nat.le_of_ble_eq_true (by exact rfl)) (LamX.lamS_by (by exact rfl)) (fun _ _ _ _ _ => (by exact rfl)) (fun f c' A outer s H E T W g => ?_)
      refine r_f g ?_; refine r_c g ?_ ?_; exact r_v g; refine r_c g ?_ ?_; exact r_v g; refine a_nil g; refine LamsW.cons ?_ ?_
      refine lamOk1_of g (Nat.le_of_ble_eq_true (by exact rfl)) (LamX.lamS_by (by exact rfl)) (fun _ _ _ _ _ => (by exact rfl)) (fun f c' A outer s H E T W g => ?_)
      refine w_callk0 g (by exact rfl) (by exact rfl) (by exact rfl) (by exact rfl) ?_ (by exact rfl) (by exact rfl) (by exact rfl); refine kw_cons g ?_ ?_
      exact r_v g; refine kw_cons g ?_ ?_; exact r_v g; refine kw_nil g; exact LamsW.nil))
  (
      refine s_cons ?_ ?_; refine r_a g ?_; refine r_f g ?_; refine r_c g ?_ ?_; exact r_v g; refine r_c g ?_ ?_; exact r_v g; refine a_nil g
      refine s_cons ?_ ?_; refine r_a g ?_; refine k_lst g ?_; refine r_c g ?_ ?_; refine e_notN g ?_ (by exact rfl); exact r_v g; refine r_c g ?_ ?_
      refine k_and g ?_ ?_; refine e_notN g ?_ (by exact rfl); exact r_v g; refine e_one ?_; refine k_cmp (o := Co.eq) g ?_ ?_ (by exact rfl); exact r_v g
      exact r_v g; refine a_nil g; refine s_cons ?_ ?_; refine r_a g ?_; refine k_lst g ?_; refine r_c g ?_ ?_; refine r_f g ?_; refine r_c g ?_ ?_
      exact r_v g; refine r_c g ?_ ?_; exact r_v g; refine a_nil g; refine r_c g ?_ ?_; refine r_f g ?_; refine r_c g ?_ ?_; exact r_v g; refine r_c g ?_ ?_
      exact r_v g; refine r_c g ?_ ?_; exact r_v g; refine a_nil g; refine a_nil g; refine s_cons ?_ ?_; refine s_if ?_ ?_ ?_; refine t_not ?_
      refine t_val ?_ (fun _ => (by exact rfl)); refine r_f g ?_; refine r_c g ?_ ?_; refine k_lst g ?_; refine r_c g ?_ ?_; exact r_v g; refine r_c g ?_ ?_
      refine k_lst g ?_; refine r_c g ?_ ?_
      refine w_callk0 g (by exact rfl) (by exact rfl) (by exact rfl) (by exact rfl) ?_ (by exact rfl) (by exact rfl) (by exact rfl); refine kw_cons g ?_ ?_
      exact r_v g; refine kw_cons g ?_ ?_; exact r_v g; refine kw_nil g; refine r_c g ?_ ?_
      refine w_callk0 g (by exact rfl) (by exact rfl) (by exact rfl) (by exact rfl) ?_ (by exact rfl) (by exact rfl) (by exact rfl); refine kw_cons g ?_ ?_
      exact r_v g; refine kw_cons g ?_ ?_; exact r_v g; refine kw_cons g ?_ ?_; exact r_v g; refine kw_nil g; refine a_nil g; refine a_nil g
      refine r_c g ?_ ?_; refine k_lst g ?_; refine r_c g ?_ ?_; exact r_v g; refine r_c g ?_ ?_; exact r_v g; refine a_nil g; refine a_nil g
      refine s_cons ?_ ?_; refine s_ret ?_; refine k_bool g; refine s_nil; refine s_nil; refine s_cons ?_ ?_
      refine s_lamNew g hC (by exact rfl) (LamX.lamS_by (by exact rfl)).free (w_lo hlo (by exact rfl)) (by exact rfl) (loc_of (by exact rfl)) (.inl (by exact rfl)) (by exact rfl) (by exact rfl)
      refine s_cons ?_ ?_
      refine s_lamApp g hC (by exact rfl) (LamX.lamS_by (by exact rfl)).free (w_lo hlo (by exact rfl)) (by exact rfl) (vis_of (by exact rfl)) (by exact rfl) (by exact rfl) (by exact rfl) (by exact rfl) (by exact rfl) (by exact rfl) (by exact rfl)
      refine s_cons ?_ ?_; refine r_a g ?_; refine k_ite g ?_ ?_ ?_; refine t_notN g ?_ (by exact rfl); exact r_v g; refine k_lst g ?_; refine r_c g ?_ ?_
      refine k_str g; refine r_c g ?_ ?_; exact r_v g; refine a_nil g; refine k_lst g ?_; refine r_c g ?_ ?_; refine k_str g; refine r_c g ?_ ?_
      refine r_b g ?_; refine r_c g ?_ ?_; exact r_v g; refine a_nil g; refine a_nil g; refine s_cons ?_ ?_; refine s_ret ?_; refine r_f g ?_
      refine r_c g ?_ ?_
      refine w_heard g (by exact rfl) hLam hlo (by exact rfl) (fun _ _ => (by exact rfl)) (by exact rfl) (by exact rfl) (vis_of (by exact rfl)) (by exact rfl) (by exact rfl) (by exact rfl) (blkOk_by (by kernel_rfl)) (fun s H C cl fp => pg_name g.nd (by exact rfl) (loc_of (by exact rfl)) (by first | exact .inl (by exact rfl) | exact .inr (by exact rfl))) (fun _ _ => vis_of (by exact rfl)) (by exact rfl) (by exact rfl) (fun _ => (by exact rfl))
      refine r_c g ?_ ?_; refine k_lst g ?_; refine r_c g ?_ ?_; exact r_v g; refine r_c g ?_ ?_; exact r_v g; refine a_nil g; refine a_nil g; refine s_nil)
theorem w__law_right {P : Program} {w : World} {K : PySem.W.Frag} {mg : Str → Option Value} {base : Heap} {f : Addr} (cdv : Value) (A : Around) (outer : List Env) (s : Shared) (H : Hp) (E : XK) (T : Tb) (p : Option Addr) (L : Ls) (Fe : Addr → Prop) (W : WX) (wc : ∀ cls d σ σ' H, W cls d σ H → W cls d σ' H) (g : Good ⟨G28, T, p, L, 20⟩ W (cxOf (L2.CX P w) P w K mg base n__law_right "_law_right" (defScope (top 37)) f cdv A outer s H E) 23)
    (hp : PassesOwn (model P w) (cxOf (L2.CX P w) P w K mg base n__law_right "_law_right" (defScope (top 37)) f cdv A outer s H E).A (cxOf (L2.CX P w) P w K mg base n__law_right "_law_right" (defScope (top 37)) f cdv A outer s H E).env (cxOf (L2.CX P w) P w K mg base n__law_right "_law_right" (defScope (top 37)) f cdv A outer s H E).xe) : PSs (cxOf (L2.CX P w) P w K mg base n__law_right "_law_right" (defScope (top 37)) f cdv A outer s H E) (defBody (top 37)) (rdSs ⟨G28, T, p, L, 20⟩ Fe W K mg b__law_right) := by (
      refine s_cons ?_ ?_; refine s_for g hp ?_ ?_ ?_ (fun _ => (by exact rfl))
      refine i_rng (w_free g (by exact rfl) (by exact rfl) (by exact rfl) (by exact rfl) (by exact rfl)) ?_
      refine rg_1 g (w_free g (by exact rfl) (by exact rfl) (by exact rfl) (by exact rfl) (by exact rfl)) ?_ (by exact rfl); refine k_int g
      exact pg_name g.nd (by exact rfl) (loc_of (by exact rfl)) (by first | exact .inl (by exact rfl) | exact .inr (by exact rfl)); refine s_cons ?_ ?_
      refine r_a g ?_; refine k_bin (o := Bo.add) g ?_ ?_; refine k_int g; refine r_f g ?_; refine r_c g ?_ ?_; exact r_v g; refine r_c g ?_ ?_
      refine k_int g; refine a_nil g; refine s_cons ?_ ?_; refine r_a g ?_; refine r_f g ?_; refine r_c g ?_ ?_; exact r_v g; refine r_c g ?_ ?_
      exact r_v g; refine a_nil g; refine s_cons ?_ ?_
      refine s_par2 g (by exact rfl) (by exact rfl) (by decide) (by exact rfl) (by exact rfl) ?_ (by exact rfl) (by exact rfl); refine r_c g ?_ ?_
      refine r_f g ?_; refine r_c g ?_ ?_; exact r_v g; refine r_c g ?_ ?_; exact r_v g; refine a_nil g; refine r_c g ?_ ?_; refine r_f g ?_
      refine r_c g ?_ ?_; exact r_v g; refine r_c g ?_ ?_; exact r_v g; refine a_nil g; refine a_nil g; refine s_cons ?_ ?_; refine s_if ?_ ?_ ?_
      refine t_of ?_; refine q_or ?_ ?_; refine t_not ?_; refine t_val ?_ (fun _ => (by exact rfl)); refine r_f g ?_; refine r_c g ?_ ?_; exact r_v g
      refine r_c g ?_ ?_; exact r_v g; refine r_c g ?_ ?_; exact r_v g; refine a_nil g; refine q_one_or ?_; refine t_not ?_
      refine t_val ?_ (fun _ => (by exact rfl)); refine r_f g ?_; refine r_c g ?_ ?_; exact r_v g; refine r_c g ?_ ?_; refine r_f g ?_; refine r_c g ?_ ?_
      exact r_v g; refine r_c g ?_ ?_; exact r_v g; refine a_nil g; refine r_c g ?_ ?_; exact r_v g; refine a_nil g; refine s_cons ?_ ?_; refine s_ret ?_
      refine k_bool g; refine s_nil; refine s_nil; refine s_cons ?_ ?_; refine s_for g hp ?_ ?_ ?_ (fun _ => (by exact rfl)); refine i_seq g ?_
      refine r_f g ?_; refine r_c g ?_ ?_; exact r_v g; refine r_c g ?_ ?_; exact r_v g; refine r_c g ?_ ?_; exact r_v g; refine a_nil g
      exact pg_name g.nd (by exact rfl) (loc_of (by exact rfl)) (by first | exact .inl (by exact rfl) | exact .inr (by exact rfl)); refine s_cons ?_ ?_
      refine s_if ?_ ?_ ?_; refine t_not ?_; refine t_val ?_ (fun _ => (by exact rfl)); refine r_f g ?_; refine r_c g ?_ ?_; exact r_v g; refine r_c g ?_ ?_
      exact r_v g; refine r_c g ?_ ?_; exact r_v g; refine a_nil g; refine s_cons ?_ ?_; refine s_ret ?_; refine k_bool g; refine s_nil; refine s_nil
      refine s_nil; refine s_nil; refine s_cons ?_ ?_; refine s_ret ?_; refine k_bool g; refine s_nil)
theorem w_law {P : Program} {w : World} {K : PySem.W.Frag} {mg : Str → Option Value} {base : Heap} {f : Addr} (cdv : Value) (A : Around) (outer : List Env) (s : Shared) (H : Hp) (E : XK) (T : Tb) (p : Option Addr) (L : Ls) (Fe : Addr → Prop) (W : WX) (wc : ∀ cls d σ σ' H, W cls d σ H → W cls d σ' H) (g : Good ⟨G29, T, none, L, 20⟩ W (cxOf (L2.CX P w) P w K mg base n_law "law" (defScope (top 38)) f cdv A outer s H E) 24)
    (hp : PassesOwn (model P w) (cxOf (L2.CX P w) P w K mg base n_law "law" (defScope (top 38)) f cdv A outer s H E).A (cxOf (L2.CX P w) P w K mg base n_law "law" (defScope (top 38)) f cdv A outer s H E).env (cxOf (L2.CX P w) P w K mg base n_law "law" (defScope (top 38)) f cdv A outer s H E).xe) (hpot : ∀ F, G29.fns[14]? = some F → PotHas P w K mg base T.t F) : PSs (cxOf (L2.CX P w) P w K mg base n_law "law" (defScope (top 38)) f cdv A outer s H E) (defBody (top 38)) (rdSs ⟨G29, T, none, L, 20⟩ Fe W K mg b_law) := by (
      refine s_cons ?_ ?_; refine s_ret ?_; refine r_b g ?_; refine r_c g ?_ ?_
      refine w_lc g ?_ (blkOk_by (by kernel_rfl)) (by decide) (fun s H C cl fp g => ?_) (fun s H C cl fp g => ?_) (fun s H C cl fp g => ?_) (fun _ => (by exact rfl))
      refine i_rng (w_free g (by exact rfl) (by exact rfl) (by exact rfl) (by exact rfl) (by exact rfl)) ?_
      refine rg_1 g (w_free g (by exact rfl) (by exact rfl) (by exact rfl) (by exact rfl) (by exact rfl)) ?_ (by exact rfl); refine r_b g ?_
      refine r_c g ?_ ?_; refine k_int g; refine r_c g ?_ ?_; refine r_b g ?_; refine r_c g ?_ ?_; refine k_int g; refine r_c g ?_ ?_; refine r_b g ?_
      refine r_c g ?_ ?_; exact r_v g; refine a_nil g; refine a_nil g; refine a_nil g
      exact pg_name g.nd (by exact rfl) (loc_of (by exact rfl)) (by first | exact .inl (by exact rfl) | exact .inr (by exact rfl)); refine ts_no
      refine w_potCall g (by exact rfl) (by exact rfl) (by exact rfl) hpot (by exact rfl) (by exact rfl) (by exact rfl) (by exact rfl) ?_ (by exact rfl) (by exact rfl)
      refine r_c g ?_ ?_; exact r_v g; refine r_c g ?_ ?_; exact r_v g; refine a_nil g; refine a_nil g; refine s_nil)
end PyD
set_option maxHeartbeats 0
namespace PyD
open PySem PySem.Spec PyProof.Rows L2
abbrev R : PySem.W.OpenRow := PySem.W.OpenLaw.row PySem.Challenge.rw_heldloose_k59_whole_any_values_as_rows_o
def dfn (i : Nat) (nm : Str) : He.DefD := ⟨(nm, none), nm, nm, defArgs (top i), defBody (top i), defScope (top i), [], []⟩
abbrev sIni : Stmt := iniOf (top 5)
def dIni : He.DefD := ⟨("TouchError", some "__init__"), "__init__", "TouchError.__init__", defArgs sIni, defBody sIni, defScope sIni, [], []⟩
def dfs_0 : List He.DefD := [dfn 1 "is_list", dfn 2 "is_integer", dfn 3 "is_position", dfn 11 "is_pair_of", dfn 12 "pairs_are_right", dfn 13 "pairs_among", dfn 14 "step_is_right", dfn 15 "behind_step", dfn 16 "built_by", dfn 17 "check_many", dfn 18 "check_pairs", dfn 19 "is_row", dfn 20 "row_pairs", dfn 21 "does_build", dfn 23 "_law_pot", dfn 24 "_law_draw", dfn 25 "_law_pick", dfn 26 "_law_mixed", dfn 27 "_law_same", dfn 28 "_law_is_whole", dfn 29 "_law_all_pairs", dfn 30 "_law_some_pairs", dfn 31 "_law_pair", dfn 32 "_law_built", dfn 33 "_law_drawn_row", dfn 34 "_law_bent", dfn 35 "_law_heard", dfn 36 "_law_value_right", dfn 37 "_law_right", dfn 38 "law"]
def dfs_1 : List He.DefD := [dIni]
def dfs : List He.DefD := dfs_0 ++ dfs_1
def dfa : List He.Fa := [.glo "is_list", .glo "is_integer", .glo "is_position", .glo "is_pair_of", .glo "pairs_are_right", .glo "pairs_among", .glo "step_is_right", .glo "behind_step", .glo "built_by", .glo "check_many", .glo "check_pairs", .glo "is_row", .glo "row_pairs", .glo "does_build", .glo "_law_pot", .glo "_law_draw", .glo "_law_pick", .glo "_law_mixed", .glo "_law_same", .glo "_law_is_whole", .glo "_law_all_pairs", .glo "_law_some_pairs", .glo "_law_pair", .glo "_law_built", .glo "_law_drawn_row", .glo "_law_bent", .glo "_law_heard", .glo "_law_value_right", .glo "_law_right", .glo "law"]
def tfs : List (Str × Option Str) := [("_law_value_right", none)]
def exB (K : PySem.W.Frag) : Bool := headB "TouchError" G0 K && decide ((tfs.map fun d => (He.cT K d).2).Nodup)
abbrev hkL : PySem.W.Hook := He.hookX 6 dfa dfs [] tfs exB
def obL (s : PySem.W.SharedT) : He.AlX := He.obsX 6 dfa dfs [] tfs exB (HandSHeadRun.getT s)
theorem obL_eq (s : PySem.W.SharedT) : obL s = hkL.obs s.abs := He.obsX_eq (HandSHeadRun.getT_eq s)
def looseL_0 : List PySem.Str := ["is_list", "is_integer", "is_position", "TouchError", "InvalidNumber", "InvalidPairs", "InvalidRow", "MOST_POINTS", "is_pair_of", "pairs_are_right", "pairs_among", "step_is_right", "behind_step", "built_by", "check_many", "check_pairs", "is_row", "row_pairs", "does_build", "_law_pot", "_law_draw", "_law_pick", "_law_mixed", "_law_same", "_law_is_whole", "_law_all_pairs", "_law_some_pairs", "_law_pair", "_law_built", "_law_drawn_row"]
def looseL_1 : List PySem.Str := ["_law_bent", "_law_heard", "_law_value_right", "_law_right"]
def looseL : List PySem.Str := looseL_0 ++ looseL_1
def ttOf (K : PySem.W.Frag) : List (Addr × Str) := tfs.map fun d => ((He.cT K d).2, d.1 ++ ".<locals>." ++ "<lambda>")
def csOf (K : PySem.W.Frag) : List (Addr × Addr) := tfs.map (He.cT K)
theorem sc_is_list : FnScope n_is_list ["value"] (defScope (top 1)) := ⟨rfl, rfl, rfl, by decide +kernel, rfl, by decide +kernel, by decide +kernel⟩
theorem sc_is_integer : FnScope n_is_integer ["value"] (defScope (top 2)) := ⟨rfl, rfl, rfl, by decide +kernel, rfl, by decide +kernel, by decide +kernel⟩
theorem sc_is_position : FnScope n_is_position ["value", "many"] (defScope (top 3)) := ⟨rfl, rfl, rfl, by decide +kernel, rfl, by decide +kernel, by decide +kernel⟩
theorem sc_is_pair_of : FnScope n_is_pair_of ["many", "value"] (defScope (top 11)) := ⟨rfl, rfl, rfl, by decide +kernel, rfl, by decide +kernel, by decide +kernel⟩
theorem sc_pairs_are_right : FnScope n_pairs_are_right ["many", "value"] (defScope (top 12)) := ⟨rfl, rfl, rfl, by decide +kernel, rfl, by decide +kernel, by decide +kernel⟩
theorem sc_pairs_among : FnScope n_pairs_among ["points"] (defScope (top 13)) := ⟨rfl, rfl, rfl, by decide +kernel, rfl, by decide +kernel, by decide +kernel⟩
theorem sc_step_is_right : FnScope n_step_is_right ["there", "pairs", "value"] (defScope (top 14)) := ⟨rfl, rfl, rfl, by decide +kernel, rfl, by decide +kernel, by decide +kernel⟩
theorem sc_behind_step : FnScope n_behind_step ["pairs", "step"] (defScope (top 15)) := ⟨rfl, rfl, rfl, by decide +kernel, rfl, by decide +kernel, by decide +kernel⟩
theorem sc_built_by : FnScope n_built_by ["many", "value"] (defScope (top 16)) := ⟨rfl, rfl, rfl, by decide +kernel, rfl, by decide +kernel, by decide +kernel⟩
theorem sc_check_many : FnScope n_check_many ["many"] (defScope (top 17)) := ⟨rfl, rfl, rfl, by decide +kernel, rfl, by decide +kernel, by decide +kernel⟩
theorem sc_check_pairs : FnScope n_check_pairs ["many", "pairs"] (defScope (top 18)) := ⟨rfl, rfl, rfl, by decide +kernel, rfl, by decide +kernel, by decide +kernel⟩
theorem sc_is_row : FnScope n_is_row ["many", "value"] (defScope (top 19)) := ⟨rfl, rfl, rfl, by decide +kernel, rfl, by decide +kernel, by decide +kernel⟩
theorem sc_row_pairs : FnScope n_row_pairs ["many", "row"] (defScope (top 20)) := ⟨rfl, rfl, rfl, by decide +kernel, rfl, by decide +kernel, by decide +kernel⟩
theorem sc_does_build : FnScope n_does_build ["many", "pairs", "value"] (defScope (top 21)) := ⟨rfl, rfl, rfl, by decide +kernel, rfl, by decide +kernel, by decide +kernel⟩
theorem sc__law_pot : FnScope n__law_pot ["script", "k"] (defScope (top 23)) := ⟨rfl, rfl, rfl, by decide +kernel, rfl, by decide +kernel, by decide +kernel⟩
theorem sc__law_draw : FnScope n__law_draw ["pot", "many"] (defScope (top 24)) := ⟨rfl, rfl, rfl, by decide +kernel, rfl, by decide +kernel, by decide +kernel⟩
theorem sc__law_pick : FnScope n__law_pick ["pot", "some"] (defScope (top 25)) := ⟨rfl, rfl, rfl, by decide +kernel, rfl, by decide +kernel, by decide +kernel⟩
theorem sc__law_mixed : FnScope n__law_mixed ["pot", "some"] (defScope (top 26)) := ⟨rfl, rfl, rfl, by decide +kernel, rfl, by decide +kernel, by decide +kernel⟩
theorem sc__law_same : FnScope n__law_same ["told", "due"] (defScope (top 27)) := ⟨rfl, rfl, rfl, by decide +kernel, rfl, by decide +kernel, by decide +kernel⟩
theorem sc__law_is_whole : FnScope n__law_is_whole ["value"] (defScope (top 28)) := ⟨rfl, rfl, rfl, by decide +kernel, rfl, by decide +kernel, by decide +kernel⟩
theorem sc__law_all_pairs : FnScope n__law_all_pairs ["many"] (defScope (top 29)) := ⟨rfl, rfl, rfl, by decide +kernel, rfl, by decide +kernel, by decide +kernel⟩
theorem sc__law_some_pairs : FnScope n__law_some_pairs ["pot", "many"] (defScope (top 30)) := ⟨rfl, rfl, rfl, by decide +kernel, rfl, by decide +kernel, by decide +kernel⟩
theorem sc__law_pair : FnScope n__law_pair ["one", "other"] (defScope (top 31)) := ⟨rfl, rfl, rfl, by decide +kernel, rfl, by decide +kernel, by decide +kernel⟩
theorem sc__law_built : FnScope n__law_built ["many", "value"] (defScope (top 32)) := ⟨rfl, rfl, rfl, by decide +kernel, rfl, by decide +kernel, by decide +kernel⟩
theorem sc__law_drawn_row : FnScope n__law_drawn_row ["pot", "many"] (defScope (top 33)) := ⟨rfl, rfl, rfl, by decide +kernel, rfl, by decide +kernel, by decide +kernel⟩
theorem sc__law_bent : FnScope n__law_bent ["pot", "many", "row"] (defScope (top 34)) := ⟨rfl, rfl, rfl, by decide +kernel, rfl, by decide +kernel, by decide +kernel⟩
theorem sc__law_heard : FnScope n__law_heard ["call"] (defScope (top 35)) := ⟨rfl, rfl, rfl, by decide +kernel, rfl, by decide +kernel, by decide +kernel⟩
theorem sc__law_value_right : FnScope n__law_value_right ["many", "pairs", "value"] (defScope (top 36)) := ⟨rfl, rfl, rfl, by decide +kernel, rfl, by decide +kernel, by decide +kernel⟩
theorem sc__law_right : FnScope n__law_right ["pot"] (defScope (top 37)) := ⟨rfl, rfl, rfl, by decide +kernel, rfl, by decide +kernel, by decide +kernel⟩
theorem sc_law : FnScope n_law ["script"] (defScope (top 38)) := ⟨rfl, rfl, rfl, by decide +kernel, rfl, by decide +kernel, by decide +kernel⟩
section
variable {P : Program} {w : World} {K : PySem.W.Frag} {h base : Heap} {mg : Str → Option Value}
theorem iniD : IniD (defArgs sIni) (defBody sIni) (defScope sIni) := ⟨⟨rfl, rfl, rfl, by decide +kernel, rfl, by decide +kernel, by decide +kernel⟩, ⟨_, _, _, _, rfl⟩, fun _ _ _ _ _ _ _ _ us hl => match us, hl with | [_, _], _ => rfl, rfl, rfl⟩
theorem gl0 (X : K.In h) (Gm : h.Ns mainGlobals mg) (c : He.SaysX dfa dfs [] tfs exB w h K) (TB : ∀ q ∈ csOf K, LamX.TabB base mg q.1 q.2) : Glob P w K mg base G0 (ttOf K) 20 1000 := by
  obtain ⟨fd, F⟩ := c.t.d.def_ 30 (d := dIni) (by kernel_rfl)
  exact glob0 X Gm (He.ba c.more).1 rfl F iniD
theorem gl1 (X : K.In h) (Gm : h.Ns mainGlobals mg) (c : He.SaysX dfa dfs [] tfs exB w h K) (TB : ∀ q ∈ csOf K, LamX.TabB base mg q.1 q.2) : Glob P w K mg base G1 (ttOf K) 20 1000 := by
  obtain ⟨fd, F⟩ := c.t.d.def_ 0 (d := dfn 1 "is_list") (by kernel_rfl)
  have g := gl0 (P := P) X Gm c TB
  exact g.step (fnHas_of (lv := 4) (He.glo_ok X Gm (c.t.d.fact 0 (f := .glo "is_list") (by kernel_rfl))) F (by decide +kernel) (fnG_of (k := 3) F sc_is_list (g.mono (by decide)) rfl (fun _ _ _ _ _ _ _ _ _ _ => False) (fun cdv A outer s H E T p L Fe W _ _ _ wc g hp => w_is_list cdv A outer s H E T p L Fe W wc g hp)))
theorem gl2 (X : K.In h) (Gm : h.Ns mainGlobals mg) (c : He.SaysX dfa dfs [] tfs exB w h K) (TB : ∀ q ∈ csOf K, LamX.TabB base mg q.1 q.2) : Glob P w K mg base G2 (ttOf K) 20 1000 := by
  obtain ⟨fd, F⟩ := c.t.d.def_ 1 (d := dfn 2 "is_integer") (by kernel_rfl)
  have g := gl1 (P := P) X Gm c TB
  exact g.step (fnHas_of (lv := 4) (He.glo_ok X Gm (c.t.d.fact 1 (f := .glo "is_integer") (by kernel_rfl))) F (by decide +kernel) (fnG_of (k := 3) F sc_is_integer (g.mono (by decide)) rfl (fun _ _ _ _ _ _ _ _ _ _ => False) (fun cdv A outer s H E T p L Fe W _ _ _ wc g hp => w_is_integer cdv A outer s H E T p L Fe W wc g hp)))
theorem gl3 (X : K.In h) (Gm : h.Ns mainGlobals mg) (c : He.SaysX dfa dfs [] tfs exB w h K) (TB : ∀ q ∈ csOf K, LamX.TabB base mg q.1 q.2) : Glob P w K mg base G3 (ttOf K) 20 1000 := by
  obtain ⟨fd, F⟩ := c.t.d.def_ 2 (d := dfn 3 "is_position") (by kernel_rfl)
  have g := gl2 (P := P) X Gm c TB
  exact g.step (fnHas_of (lv := 5) (He.glo_ok X Gm (c.t.d.fact 2 (f := .glo "is_position") (by kernel_rfl))) F (by decide +kernel) (fnG_of (k := 4) F sc_is_position (g.mono (by decide)) rfl (fun _ _ _ _ _ _ _ _ _ _ => False) (fun cdv A outer s H E T p L Fe W _ _ _ wc g hp => w_is_position cdv A outer s H E T p L Fe W wc g hp)))
theorem gl4 (X : K.In h) (Gm : h.Ns mainGlobals mg) (c : He.SaysX dfa dfs [] tfs exB w h K) (TB : ∀ q ∈ csOf K, LamX.TabB base mg q.1 q.2) : Glob P w K mg base G4 (ttOf K) 20 1000 := by
  obtain ⟨fd, F⟩ := c.t.d.def_ 3 (d := dfn 11 "is_pair_of") (by kernel_rfl)
  have g := gl3 (P := P) X Gm c TB
  exact g.step (fnHas_of (lv := 6) (He.glo_ok X Gm (c.t.d.fact 3 (f := .glo "is_pair_of") (by kernel_rfl))) F (by decide +kernel) (fnG_of (k := 5) F sc_is_pair_of (g.mono (by decide)) rfl (fun _ _ _ _ _ _ _ _ _ _ => False) (fun cdv A outer s H E T p L Fe W _ _ _ wc g hp => w_is_pair_of cdv A outer s H E T p L Fe W wc g hp)))
theorem gl5 (X : K.In h) (Gm : h.Ns mainGlobals mg) (c : He.SaysX dfa dfs [] tfs exB w h K) (TB : ∀ q ∈ csOf K, LamX.TabB base mg q.1 q.2) : Glob P w K mg base G5 (ttOf K) 20 1000 := by
  obtain ⟨fd, F⟩ := c.t.d.def_ 4 (d := dfn 12 "pairs_are_right") (by kernel_rfl)
  have g := gl4 (P := P) X Gm c TB
  exact g.step (fnHas_of (lv := 7) (He.glo_ok X Gm (c.t.d.fact 4 (f := .glo "pairs_are_right") (by kernel_rfl))) F (by decide +kernel) (fnG_of (k := 6) F sc_pairs_are_right (g.mono (by decide)) rfl (fun _ _ _ _ _ _ _ _ _ _ => False) (fun cdv A outer s H E T p L Fe W _ _ _ wc g hp => w_pairs_are_right cdv A outer s H E T p L Fe W wc g hp)))
theorem gl6 (X : K.In h) (Gm : h.Ns mainGlobals mg) (c : He.SaysX dfa dfs [] tfs exB w h K) (TB : ∀ q ∈ csOf K, LamX.TabB base mg q.1 q.2) : Glob P w K mg base G6 (ttOf K) 20 1000 := by
  obtain ⟨fd, F⟩ := c.t.d.def_ 5 (d := dfn 13 "pairs_among") (by kernel_rfl)
  have g := gl5 (P := P) X Gm c TB
  exact g.step (fnHas_of (lv := 4) (He.glo_ok X Gm (c.t.d.fact 5 (f := .glo "pairs_among") (by kernel_rfl))) F (by decide +kernel) (fnG_of (k := 3) F sc_pairs_among (g.mono (by decide)) rfl (fun _ _ _ _ _ _ _ _ _ _ => False) (fun cdv A outer s H E T p L Fe W _ _ _ wc g hp => w_pairs_among cdv A outer s H E T p L Fe W wc g hp)))
theorem gl7 (X : K.In h) (Gm : h.Ns mainGlobals mg) (c : He.SaysX dfa dfs [] tfs exB w h K) (TB : ∀ q ∈ csOf K, LamX.TabB base mg q.1 q.2) : Glob P w K mg base G7 (ttOf K) 20 1000 := by
  obtain ⟨fd, F⟩ := c.t.d.def_ 6 (d := dfn 14 "step_is_right") (by kernel_rfl)
  have g := gl6 (P := P) X Gm c TB
  exact g.step (fnHas_of (lv := 7) (He.glo_ok X Gm (c.t.d.fact 6 (f := .glo "step_is_right") (by kernel_rfl))) F (by decide +kernel) (fnG_of (k := 6) F sc_step_is_right (g.mono (by decide)) rfl (fun _ _ _ _ _ _ _ _ _ _ => False) (fun cdv A outer s H E T p L Fe W _ _ _ wc g hp => w_step_is_right cdv A outer s H E T p L Fe W wc g hp)))
theorem gl8 (X : K.In h) (Gm : h.Ns mainGlobals mg) (c : He.SaysX dfa dfs [] tfs exB w h K) (TB : ∀ q ∈ csOf K, LamX.TabB base mg q.1 q.2) : Glob P w K mg base G8 (ttOf K) 20 1000 := by
  obtain ⟨fd, F⟩ := c.t.d.def_ 7 (d := dfn 15 "behind_step") (by kernel_rfl)
  have g := gl7 (P := P) X Gm c TB
  exact g.step (fnHas_of (lv := 4) (He.glo_ok X Gm (c.t.d.fact 7 (f := .glo "behind_step") (by kernel_rfl))) F (by decide +kernel) (fnG_of (k := 3) F sc_behind_step (g.mono (by decide)) rfl (fun _ _ _ _ _ _ _ _ _ _ => False) (fun cdv A outer s H E T p L Fe W _ _ _ wc g hp => w_behind_step cdv A outer s H E T p L Fe W wc g hp)))
theorem gl9 (X : K.In h) (Gm : h.Ns mainGlobals mg) (c : He.SaysX dfa dfs [] tfs exB w h K) (TB : ∀ q ∈ csOf K, LamX.TabB base mg q.1 q.2) : Glob P w K mg base G9 (ttOf K) 20 1000 := by
  obtain ⟨fd, F⟩ := c.t.d.def_ 8 (d := dfn 16 "built_by") (by kernel_rfl)
  have g := gl8 (P := P) X Gm c TB
  exact g.step (fnHas_of (lv := 8) (He.glo_ok X Gm (c.t.d.fact 8 (f := .glo "built_by") (by kernel_rfl))) F (by decide +kernel) (fnG_of (k := 7) F sc_built_by (g.mono (by decide)) rfl (fun _ _ _ _ _ _ _ _ _ _ => False) (fun cdv A outer s H E T p L Fe W _ _ _ wc g hp => w_built_by cdv A outer s H E T p L Fe W wc g hp)))
theorem gl10 (X : K.In h) (Gm : h.Ns mainGlobals mg) (c : He.SaysX dfa dfs [] tfs exB w h K) (TB : ∀ q ∈ csOf K, LamX.TabB base mg q.1 q.2) : Glob P w K mg base G10 (ttOf K) 20 1000 := by
  obtain ⟨fd, F⟩ := c.t.d.def_ 9 (d := dfn 17 "check_many") (by kernel_rfl)
  have g := gl9 (P := P) X Gm c TB
  exact g.step (fnHas_of (lv := 5) (He.glo_ok X Gm (c.t.d.fact 9 (f := .glo "check_many") (by kernel_rfl))) F (by decide +kernel) (fnG_of (k := 4) F sc_check_many (g.mono (by decide)) rfl (fun _ _ _ _ _ _ _ _ _ _ => False) (fun cdv A outer s H E T p L Fe W _ _ _ wc g hp => w_check_many cdv A outer s H E T p L Fe W wc g hp)))
theorem gl11 (X : K.In h) (Gm : h.Ns mainGlobals mg) (c : He.SaysX dfa dfs [] tfs exB w h K) (TB : ∀ q ∈ csOf K, LamX.TabB base mg q.1 q.2) : Glob P w K mg base G11 (ttOf K) 20 1000 := by
  obtain ⟨fd, F⟩ := c.t.d.def_ 10 (d := dfn 18 "check_pairs") (by kernel_rfl)
  have g := gl10 (P := P) X Gm c TB
  exact g.step (fnHas_of (lv := 8) (He.glo_ok X Gm (c.t.d.fact 10 (f := .glo "check_pairs") (by kernel_rfl))) F (by decide +kernel) (fnG_of (k := 7) F sc_check_pairs (g.mono (by decide)) rfl (fun _ _ _ _ _ _ _ _ _ _ => False) (fun cdv A outer s H E T p L Fe W _ _ _ wc g hp => w_check_pairs cdv A outer s H E T p L Fe W wc g hp)))
theorem gl12 (X : K.In h) (Gm : h.Ns mainGlobals mg) (c : He.SaysX dfa dfs [] tfs exB w h K) (TB : ∀ q ∈ csOf K, LamX.TabB base mg q.1 q.2) : Glob P w K mg base G12 (ttOf K) 20 1000 := by
  obtain ⟨fd, F⟩ := c.t.d.def_ 11 (d := dfn 19 "is_row") (by kernel_rfl)
  have g := gl11 (P := P) X Gm c TB
  exact g.step (fnHas_of (lv := 9) (He.glo_ok X Gm (c.t.d.fact 11 (f := .glo "is_row") (by kernel_rfl))) F (by decide +kernel) (fnG_of (k := 8) F sc_is_row (g.mono (by decide)) rfl (fun _ _ _ _ _ _ _ _ _ _ => False) (fun cdv A outer s H E T p L Fe W _ _ _ wc g hp => w_is_row cdv A outer s H E T p L Fe W wc g hp)))
theorem gl13 (X : K.In h) (Gm : h.Ns mainGlobals mg) (c : He.SaysX dfa dfs [] tfs exB w h K) (TB : ∀ q ∈ csOf K, LamX.TabB base mg q.1 q.2) : Glob P w K mg base G13 (ttOf K) 20 1000 := by
  obtain ⟨fd, F⟩ := c.t.d.def_ 12 (d := dfn 20 "row_pairs") (by kernel_rfl)
  have g := gl12 (P := P) X Gm c TB
  exact g.step (fnHas_of (lv := 9) (He.glo_ok X Gm (c.t.d.fact 12 (f := .glo "row_pairs") (by kernel_rfl))) F (by decide +kernel) (fnG_of (k := 8) F sc_row_pairs (g.mono (by decide)) rfl (fun _ _ _ _ _ _ _ _ _ _ => False) (fun cdv A outer s H E T p L Fe W _ _ _ wc g hp => w_row_pairs cdv A outer s H E T p L Fe W wc g hp)))
theorem gl14 (X : K.In h) (Gm : h.Ns mainGlobals mg) (c : He.SaysX dfa dfs [] tfs exB w h K) (TB : ∀ q ∈ csOf K, LamX.TabB base mg q.1 q.2) : Glob P w K mg base G14 (ttOf K) 20 1000 := by
  obtain ⟨fd, F⟩ := c.t.d.def_ 13 (d := dfn 21 "does_build") (by kernel_rfl)
  have g := gl13 (P := P) X Gm c TB
  exact g.step (fnHas_of (lv := 9) (He.glo_ok X Gm (c.t.d.fact 13 (f := .glo "does_build") (by kernel_rfl))) F (by decide +kernel) (fnG_of (k := 8) F sc_does_build (g.mono (by decide)) rfl (fun _ _ _ _ _ _ _ _ _ _ => False) (fun cdv A outer s H E T p L Fe W _ _ _ wc g hp => w_does_build cdv A outer s H E T p L Fe W wc g hp)))
theorem gl15 (X : K.In h) (Gm : h.Ns mainGlobals mg) (c : He.SaysX dfa dfs [] tfs exB w h K) (TB : ∀ q ∈ csOf K, LamX.TabB base mg q.1 q.2) : Glob P w K mg base G15 (ttOf K) 20 1000 := by
  obtain ⟨fd, F⟩ := c.t.d.def_ 14 (d := dfn 23 "_law_pot") (by kernel_rfl)
  have g := gl14 (P := P) X Gm c TB
  exact g.step (fnHas_of (lv := 4) (He.glo_ok X Gm (c.t.d.fact 14 (f := .glo "_law_pot") (by kernel_rfl))) F (by decide +kernel) (fnG_of (k := 3) F sc__law_pot (g.mono (by decide)) rfl (fun _ _ _ _ _ _ _ _ _ _ => False) (fun cdv A outer s H E T p L Fe W _ _ _ wc g hp => w__law_pot cdv A outer s H E T p L Fe W wc g hp)))
theorem gl16 (X : K.In h) (Gm : h.Ns mainGlobals mg) (c : He.SaysX dfa dfs [] tfs exB w h K) (TB : ∀ q ∈ csOf K, LamX.TabB base mg q.1 q.2) : Glob P w K mg base G16 (ttOf K) 20 1000 := by
  obtain ⟨fd, F⟩ := c.t.d.def_ 15 (d := dfn 24 "_law_draw") (by kernel_rfl)
  have g := gl15 (P := P) X Gm c TB
  exact g.step (fnHas_of (lv := 4) (He.glo_ok X Gm (c.t.d.fact 15 (f := .glo "_law_draw") (by kernel_rfl))) F (by decide +kernel) (fnG_of (k := 3) F sc__law_draw (g.mono (by decide)) rfl (fun _ _ _ _ _ _ _ _ _ _ => False) (fun cdv A outer s H E T p L Fe W _ _ _ wc g hp => w__law_draw cdv A outer s H E T p L Fe W wc g hp)))
theorem gl17 (X : K.In h) (Gm : h.Ns mainGlobals mg) (c : He.SaysX dfa dfs [] tfs exB w h K) (TB : ∀ q ∈ csOf K, LamX.TabB base mg q.1 q.2) : Glob P w K mg base G17 (ttOf K) 20 1000 := by
  obtain ⟨fd, F⟩ := c.t.d.def_ 16 (d := dfn 25 "_law_pick") (by kernel_rfl)
  have g := gl16 (P := P) X Gm c TB
  exact g.step (fnHas_of (lv := 5) (He.glo_ok X Gm (c.t.d.fact 16 (f := .glo "_law_pick") (by kernel_rfl))) F (by decide +kernel) (fnG_of (k := 4) F sc__law_pick (g.mono (by decide)) rfl (fun _ _ _ _ _ _ _ _ _ _ => False) (fun cdv A outer s H E T p L Fe W _ _ _ wc g hp => w__law_pick cdv A outer s H E T p L Fe W wc g hp)))
theorem gl18 (X : K.In h) (Gm : h.Ns mainGlobals mg) (c : He.SaysX dfa dfs [] tfs exB w h K) (TB : ∀ q ∈ csOf K, LamX.TabB base mg q.1 q.2) : Glob P w K mg base G18 (ttOf K) 20 1000 := by
  obtain ⟨fd, F⟩ := c.t.d.def_ 17 (d := dfn 26 "_law_mixed") (by kernel_rfl)
  have g := gl17 (P := P) X Gm c TB
  exact g.step (fnHas_of (lv := 5) (He.glo_ok X Gm (c.t.d.fact 17 (f := .glo "_law_mixed") (by kernel_rfl))) F (by decide +kernel) (fnG_of (k := 4) F sc__law_mixed (g.mono (by decide)) rfl (fun _ _ _ _ _ _ _ _ _ _ => False) (fun cdv A outer s H E T p L Fe W _ _ _ wc g hp => w__law_mixed cdv A outer s H E T p L Fe W wc g hp)))
theorem gl19 (X : K.In h) (Gm : h.Ns mainGlobals mg) (c : He.SaysX dfa dfs [] tfs exB w h K) (TB : ∀ q ∈ csOf K, LamX.TabB base mg q.1 q.2) : Glob P w K mg base G19 (ttOf K) 20 1000 := by
  obtain ⟨fd, F⟩ := c.t.d.def_ 18 (d := dfn 27 "_law_same") (by kernel_rfl)
  have g := gl18 (P := P) X Gm c TB
  exact g.step (fnHas_of (lv := 4) (He.glo_ok X Gm (c.t.d.fact 18 (f := .glo "_law_same") (by kernel_rfl))) F (by decide +kernel) (fnG_of (k := 3) F sc__law_same (g.mono (by decide)) rfl (fun _ _ _ _ _ _ _ _ _ _ => False) (fun cdv A outer s H E T p L Fe W _ _ _ wc g hp => w__law_same cdv A outer s H E T p L Fe W wc g hp)))
theorem gl20 (X : K.In h) (Gm : h.Ns mainGlobals mg) (c : He.SaysX dfa dfs [] tfs exB w h K) (TB : ∀ q ∈ csOf K, LamX.TabB base mg q.1 q.2) : Glob P w K mg base G20 (ttOf K) 20 1000 := by
  obtain ⟨fd, F⟩ := c.t.d.def_ 19 (d := dfn 28 "_law_is_whole") (by kernel_rfl)
  have g := gl19 (P := P) X Gm c TB
  exact g.step (fnHas_of (lv := 4) (He.glo_ok X Gm (c.t.d.fact 19 (f := .glo "_law_is_whole") (by kernel_rfl))) F (by decide +kernel) (fnG_of (k := 3) F sc__law_is_whole (g.mono (by decide)) rfl (fun _ _ _ _ _ _ _ _ _ _ => False) (fun cdv A outer s H E T p L Fe W _ _ _ wc g hp => w__law_is_whole cdv A outer s H E T p L Fe W wc g hp)))
theorem gl21 (X : K.In h) (Gm : h.Ns mainGlobals mg) (c : He.SaysX dfa dfs [] tfs exB w h K) (TB : ∀ q ∈ csOf K, LamX.TabB base mg q.1 q.2) : Glob P w K mg base G21 (ttOf K) 20 1000 := by
  obtain ⟨fd, F⟩ := c.t.d.def_ 20 (d := dfn 29 "_law_all_pairs") (by kernel_rfl)
  have g := gl20 (P := P) X Gm c TB
  exact g.step (fnHas_of (lv := 4) (He.glo_ok X Gm (c.t.d.fact 20 (f := .glo "_law_all_pairs") (by kernel_rfl))) F (by decide +kernel) (fnG_of (k := 3) F sc__law_all_pairs (g.mono (by decide)) rfl (fun _ _ _ _ _ _ _ _ _ _ => False) (fun cdv A outer s H E T p L Fe W _ _ _ wc g hp => w__law_all_pairs cdv A outer s H E T p L Fe W wc g hp)))
theorem gl22 (X : K.In h) (Gm : h.Ns mainGlobals mg) (c : He.SaysX dfa dfs [] tfs exB w h K) (TB : ∀ q ∈ csOf K, LamX.TabB base mg q.1 q.2) : Glob P w K mg base G22 (ttOf K) 20 1000 := by
  obtain ⟨fd, F⟩ := c.t.d.def_ 21 (d := dfn 30 "_law_some_pairs") (by kernel_rfl)
  have g := gl21 (P := P) X Gm c TB
  exact g.step (fnHas_of (lv := 5) (He.glo_ok X Gm (c.t.d.fact 21 (f := .glo "_law_some_pairs") (by kernel_rfl))) F (by decide +kernel) (fnG_of (k := 4) F sc__law_some_pairs (g.mono (by decide)) rfl (fun _ _ _ _ _ _ _ _ _ _ => False) (fun cdv A outer s H E T p L Fe W _ _ _ wc g hp => w__law_some_pairs cdv A outer s H E T p L Fe W wc g hp)))
theorem gl23 (X : K.In h) (Gm : h.Ns mainGlobals mg) (c : He.SaysX dfa dfs [] tfs exB w h K) (TB : ∀ q ∈ csOf K, LamX.TabB base mg q.1 q.2) : Glob P w K mg base G23 (ttOf K) 20 1000 := by
  obtain ⟨fd, F⟩ := c.t.d.def_ 22 (d := dfn 31 "_law_pair") (by kernel_rfl)
  have g := gl22 (P := P) X Gm c TB
  exact g.step (fnHas_of (lv := 4) (He.glo_ok X Gm (c.t.d.fact 22 (f := .glo "_law_pair") (by kernel_rfl))) F (by decide +kernel) (fnG_of (k := 3) F sc__law_pair (g.mono (by decide)) rfl (fun _ _ _ _ _ _ _ _ _ _ => False) (fun cdv A outer s H E T p L Fe W _ _ _ wc g hp => w__law_pair cdv A outer s H E T p L Fe W wc g hp)))
theorem gl24 (X : K.In h) (Gm : h.Ns mainGlobals mg) (c : He.SaysX dfa dfs [] tfs exB w h K) (TB : ∀ q ∈ csOf K, LamX.TabB base mg q.1 q.2) : Glob P w K mg base G24 (ttOf K) 20 1000 := by
  obtain ⟨fd, F⟩ := c.t.d.def_ 23 (d := dfn 32 "_law_built") (by kernel_rfl)
  have g := gl23 (P := P) X Gm c TB
  exact g.step (fnHas_of (lv := 5) (He.glo_ok X Gm (c.t.d.fact 23 (f := .glo "_law_built") (by kernel_rfl))) F (by decide +kernel) (fnG_of (k := 4) F sc__law_built (g.mono (by decide)) rfl (fun _ _ _ _ _ _ _ _ _ _ => False) (fun cdv A outer s H E T p L Fe W _ _ _ wc g hp => w__law_built cdv A outer s H E T p L Fe W wc g hp)))
theorem gl25 (X : K.In h) (Gm : h.Ns mainGlobals mg) (c : He.SaysX dfa dfs [] tfs exB w h K) (TB : ∀ q ∈ csOf K, LamX.TabB base mg q.1 q.2) : Glob P w K mg base G25 (ttOf K) 20 1000 := by
  obtain ⟨fd, F⟩ := c.t.d.def_ 24 (d := dfn 33 "_law_drawn_row") (by kernel_rfl)
  have g := gl24 (P := P) X Gm c TB
  exact g.step (fnHas_of (lv := 6) (He.glo_ok X Gm (c.t.d.fact 24 (f := .glo "_law_drawn_row") (by kernel_rfl))) F (by decide +kernel) (fnG_of (k := 5) F sc__law_drawn_row (g.mono (by decide)) rfl (fun _ _ _ _ _ _ _ _ _ _ => False) (fun cdv A outer s H E T p L Fe W _ _ _ wc g hp => w__law_drawn_row cdv A outer s H E T p L Fe W wc g hp)))
theorem gl26 (X : K.In h) (Gm : h.Ns mainGlobals mg) (c : He.SaysX dfa dfs [] tfs exB w h K) (TB : ∀ q ∈ csOf K, LamX.TabB base mg q.1 q.2) : Glob P w K mg base G26 (ttOf K) 20 1000 := by
  obtain ⟨fd, F⟩ := c.t.d.def_ 25 (d := dfn 34 "_law_bent") (by kernel_rfl)
  have g := gl25 (P := P) X Gm c TB
  exact g.step (fnHas_of (lv := 5) (He.glo_ok X Gm (c.t.d.fact 25 (f := .glo "_law_bent") (by kernel_rfl))) F (by decide +kernel) (fnG_of (k := 4) F sc__law_bent (g.mono (by decide)) rfl (fun _ _ _ _ _ _ _ _ _ _ => False) (fun cdv A outer s H E T p L Fe W _ _ _ wc g hp => w__law_bent cdv A outer s H E T p L Fe W wc g hp)))
theorem gl27 (X : K.In h) (Gm : h.Ns mainGlobals mg) (c : He.SaysX dfa dfs [] tfs exB w h K) (TB : ∀ q ∈ csOf K, LamX.TabB base mg q.1 q.2) : Glob P w K mg base G27 (ttOf K) 20 1000 := by
  obtain ⟨fd, F⟩ := c.t.d.def_ 26 (d := dfn 35 "_law_heard") (by kernel_rfl)
  have g := gl26 (P := P) X Gm c TB
  exact g.step (fnHas_of (lv := 22) (He.glo_ok X Gm (c.t.d.fact 26 (f := .glo "_law_heard") (by kernel_rfl))) F (by decide +kernel) (fnG_of (k := 21) F sc__law_heard (g.mono (by decide)) rfl (fun _ _ _ _ _ _ _ _ _ _ => False) (fun cdv A outer s H E T p L Fe W _ _ _ wc g hp => w__law_heard cdv A outer s H E T p L Fe W wc g hp)))
theorem gl28 (X : K.In h) (Gm : h.Ns mainGlobals mg) (c : He.SaysX dfa dfs [] tfs exB w h K) (TB : ∀ q ∈ csOf K, LamX.TabB base mg q.1 q.2) : Glob P w K mg base G28 (ttOf K) 20 1000 := by
  obtain ⟨fd, F⟩ := c.t.d.def_ 27 (d := dfn 36 "_law_value_right") (by kernel_rfl)
  have g := gl27 (P := P) X Gm c TB
  have hd : (("_law_value_right" : Str), (none : Option Str)) ∈ tfs := List.mem_of_getElem? (i := 0) (by kernel_rfl)
  have hB := TB (He.cT K ("_law_value_right", none)) (List.mem_map.mpr ⟨_, hd, rfl⟩)
  have hm : ((He.cT K ("_law_value_right", none)).2, (("_law_value_right" : Str) ++ ".<locals>." ++ "<lambda>")) ∈ ttOf K := List.mem_map.mpr ⟨_, hd, rfl⟩
  have hu := tt_uniq (K := K) (d := ("_law_value_right", none)) (of_decide_eq_true (He.ba c.more).2) hd
  exact g.step (fnHas_of (lv := 23) (He.glo_ok X Gm (c.t.d.fact 27 (f := .glo "_law_value_right") (by kernel_rfl))) F (by decide +kernel) (fnG_of (k := 22) F sc__law_value_right (g.mono (by decide)) rfl (fun cdv A outer s H E => loOf lams__law_value_right (cxOf (L2.CX P w) P w K mg base n__law_value_right "_law_value_right" (defScope (top 36)) (He.ga K "_law_value_right") cdv A outer s H E)) (fun cdv A outer s H E T p L Fe W hcd hT hlo wc g hp => w__law_value_right cdv A outer s H E T p L Fe W wc g hp (lamCtx_of (cs := []) hcd (codeRef F) hT hB hm hu) hlo)))
theorem gl29 (X : K.In h) (Gm : h.Ns mainGlobals mg) (c : He.SaysX dfa dfs [] tfs exB w h K) (TB : ∀ q ∈ csOf K, LamX.TabB base mg q.1 q.2) : Glob P w K mg base G29 (ttOf K) 20 1000 := by
  obtain ⟨fd, F⟩ := c.t.d.def_ 28 (d := dfn 37 "_law_right") (by kernel_rfl)
  have g := gl28 (P := P) X Gm c TB
  exact g.step (fnHas_of (lv := 24) (He.glo_ok X Gm (c.t.d.fact 28 (f := .glo "_law_right") (by kernel_rfl))) F (by decide +kernel) (fnG_of (k := 23) F sc__law_right (g.mono (by decide)) rfl (fun _ _ _ _ _ _ _ _ _ _ => False) (fun cdv A outer s H E T p L Fe W _ _ _ wc g hp => w__law_right cdv A outer s H E T p L Fe W wc g hp)))
theorem potL (X : K.In h) (Gm : h.Ns mainGlobals mg) (c : He.SaysX dfa dfs [] tfs exB w h K) (TB : ∀ q ∈ csOf K, LamX.TabB base mg q.1 q.2) : PotHas P w K mg base (ttOf K) F14 := by
  obtain ⟨fd, F⟩ := c.t.d.def_ 14 (d := dfn 23 "_law_pot") (by kernel_rfl)
  have g := gl14 (P := P) X Gm c TB
  have F2 : FunD K "_law_pot" "_law_pot" (defArgs (top 23)) [stAt (defBody (top 23)) [0], .Return (some (retOf (stAt (defBody (top 23)) [1]))) (posOf (stAt (defBody (top 23)) [1]))] (defScope (top 23)) [] [] (He.ga K "_law_pot") fd := F
  exact ⟨_, fd, He.glo_ok X Gm (c.t.d.fact 14 (f := .glo "_law_pot") (by kernel_rfl)), F.kp, plain_of F (by decide +kernel), fnPot_of (k := 3) F2 sc__law_pot (g.mono (by decide)) (fun ρ st v st' => asg_ne) rfl (fun cdv A outer s H E T Fe W wc g => wp__law_pot cdv A outer s H E T Fe W wc g)⟩
theorem lawL (K1 : K.In h) (Gm : h.Ns mainGlobals mg) (c : He.SaysX dfa dfs [] tfs exB w h K) : ∃ fd : FuncData, (∀ (s : Shared) (v : Value), BindsTo s fd ⟨[v], []⟩ [("script", v)]) ∧ ∀ base : Heap, (∀ q ∈ csOf K, LamX.TabB base mg q.1 q.2) → FnGp P w K mg base G29.clss (ttOf K) 20 none 25 (He.ga K "law") fd ["script"] F29.sem := by
  obtain ⟨fd, F⟩ := c.t.d.def_ 29 (d := dfn 38 "law") (by kernel_rfl)
  have b := FunD.bindsA (ps := ["script"]) F fun _ _ _ _ _ _ us hl => match us, hl with | [_], _ => rfl
  refine ⟨fd, fun s v => b s [v] rfl, fun base TB => ?_⟩
  have g := gl29 (P := P) (base := base) K1 Gm c TB
  have hp := potL (P := P) (base := base) K1 Gm c TB
  exact fnGp_of (k := 24) F sc_law (g.mono (by decide)) rfl (fun _ _ _ _ _ _ _ _ _ _ => False) (fun cdv A outer s H E T L Fe W _ hT _ wc g hpo => w_law cdv A outer s H E T none L Fe W wc g hpo (fun F hF => by cases hF; rw [hT]; exact hp))
end
theorem runL (w : World) : HandSHeadRun.RunEq R (PySem.W.view R.prog [38]) hkL obL 6000 looseL w := by
  intro os
  kernel_rfl
end PyD
open PySem PySem.W PySem.Calls PyProof.Rows
theorem PySem.Challenge.cw_heldloose_k59_whole_any_values_as_rows_o_holds : PySem.Challenge.rw_heldloose_k59_whole_any_values_as_rows_o.Holds := by
  w_on; o_law
  refine HandSHeadRun.head_any (r := OpenLaw.row PySem.Challenge.rw_heldloose_k59_whole_any_values_as_rows_o) (q := view (OpenLaw.row PySem.Challenge.rw_heldloose_k59_whole_any_values_as_rows_o).prog [38]) (H := PyD.hkL) (ob := PyD.obL) (M := 6000) (loose := PyD.looseL) (d := HandSHeadRun.topDef (OpenLaw.row PySem.Challenge.rw_heldloose_k59_whole_any_values_as_rows_o).prog 38) (kwd := []) PyD.obL_eq
    (by kernel_rfl) (fun s => by kernel_rfl) PyD.runL (by kernel_rfl) (by kernel_rfl) (by kernel_rfl) (by rfl) (by first | assumption | decide +kernel) (by decide +kernel) ⟨rfl, rfl, rfl, rfl, rfl, by decide +kernel⟩ ?hw ?hc
  case hw => w_witness2
  case hc =>
    refine PyD.walk_G (l := PySem.Challenge.rw_heldloose_k59_whole_any_values_as_rows_o) (n := 63) (k := 25) (lvL := 20) (G := PyD.G29) (x := "script") (sem := PyD.F29.sem) rfl (by decide) (by kernel_rfl) ⟨⟨rfl, by decide, by decide⟩, rfl⟩ ?F PyD.law_math
    intro w mg fa h Y G hmg0
    obtain ⟨K, KX, c⟩ := Y
    have hmg : mg ("law" : PySem.Str) = some (.ref fa) := by
      have e : (HandSHeadRun.topDef (OpenLaw.row PySem.Challenge.rw_heldloose_k59_whole_any_values_as_rows_o).prog 38).name = ("law" : PySem.Str) := by kernel_rfl
      rw [← e]
      exact hmg0
    have e := hmg.symm.trans (He.glo_ok KX G (c.t.d.fact 29 (f := .glo "law") (by kernel_rfl)))
    cases e
    obtain ⟨fd, hb, hF⟩ := PyD.lawL (P := (PySem.Challenge.rw_heldloose_k59_whole_any_values_as_rows_o).prog) KX G c
    refine ⟨K, fd, PyD.csOf K, PyD.ttOf K, KX, (He.ba (He.ba c.more).1).1, fun q hq => ?_, fun q hq => ?_, fun q hq => ?_, fun t ht => ?_, hb, fun base _ _ TB => hF base TB⟩
    · obtain ⟨d, hd, e⟩ := List.mem_map.mp hq; rw [← e]; exact c.empty d hd
    · obtain ⟨d, hd, e⟩ := List.mem_map.mp hq; rw [← e]; exact c.out d hd
    · obtain ⟨d, hd, e⟩ := List.mem_map.mp hq; rw [← e]; exact PySem.W.codeHd_of_K KX (c.hd d hd)
    · obtain ⟨d, hd, e⟩ := List.mem_map.mp ht; exact ⟨He.cT K d, List.mem_map.mpr ⟨d, hd, rfl⟩, by rw [← e]⟩
