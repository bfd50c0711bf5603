import PyProof.Rows.All
import Wide.All
import OpenK.AllK
import Wide.FinOn
import HandS.TupMul
import HandS.TupAny
import HandS.ForMost
import HandS.ForExc
import HandS.Wide
import HandS.EndBits
import HandS.IsInst
import HandS.Walk
import HandS.Rev
import HandS.Lambda
import HandS.Defaults
import HandS.RaiseMore
import PyProof.ReprRoads
import KE.GoesEnum
import HandS.Style
import HandS.RevTup
import HandS.HeadHook4
import HandS.Head2
import HandS.Words
import HandS.Head3
import PySem.Challenge.RW_evernew_k02_whole_polynomials
set_option Elab.async false
set_option linter.all false
set_option maxRecDepth 100000
set_option maxHeartbeats 8000000
namespace Ev
open PySem PySem.Spec PyProof.Rows L2
/-! ### a tuple taken no times, once -/
theorem tup_mul_same (l : Addr) (items : Array Value) (n : Nat) (dd : Option Addr) (sl : Array (Option Value)) (x : Int) (u : Tok) (c0 : (decide (x < -(2 ^ 63)) || decide (x ≥ 2 ^ 63)) = false) (c1 : (items.isEmpty || x == 1) = true) :
    Meets (Builtin.«tuple.__mul__» ⟨[.ref l, .int x u], []⟩) (fun _ R s => s.heap.get? l = some { cls := .type "tuple", dict := dd, data := .seq items n, slots := sl } ∧
      R (.ok (.ret (Value.ref l))) s) :=
  .of_wp fun prog w A R s h => by
    obtain ⟨hp, g, d, tk, os⟩ := s
    obtain ⟨hl, h⟩ := h
    have f1 := AutoSeq1.idx_int
    wp_walk using wpAny_loadPart' hl
    repeat (first
      | (refine wpAny_ite_false (decide_eq_false (by rw [c0]; exact Bool.false_ne_true)) ?_; wp_walk using wpAny_loadPart' hl)
      | (refine wpAny_ite_true (decide_eq_true c1) ?_; wp_walk using wpAny_loadPart' hl))
    exact ⟨_, rfl, h⟩
theorem tup_mul_none (l : Addr) (items : Array Value) (n : Nat) (dd : Option Addr) (sl : Array (Option Value)) (x : Int) (u : Tok) (c0 : (decide (x < -(2 ^ 63)) || decide (x ≥ 2 ^ 63)) = false) (c1 : (items.isEmpty || x == 1) = false) (c2 : (decide (x ≤ 0) || items.isEmpty) = true) :
    Meets (Builtin.«tuple.__mul__» ⟨[.ref l, .int x u], []⟩) (fun _ R s => s.heap.get? l = some { cls := .type "tuple", dict := dd, data := .seq items n, slots := sl } ∧
      R (.ok (.ret (Value.ref s.heap.objs.size))) { s with heap := s.heap.push { cls := Value.type "tuple", data := Data.seq #[] }, toks := s.toks }) :=
  .of_wp fun prog w A R s h => by
    obtain ⟨hp, g, d, tk, os⟩ := s
    obtain ⟨hl, h⟩ := h
    have f1 := AutoSeq1.idx_int
    wp_walk using wpAny_loadPart' hl
    repeat (first
      | (refine wpAny_ite_false (decide_eq_false (by rw [c0]; exact Bool.false_ne_true)) ?_; wp_walk using wpAny_loadPart' hl)
      | (refine wpAny_ite_false (decide_eq_false (by rw [c1]; exact Bool.false_ne_true)) ?_; wp_walk using wpAny_loadPart' hl)
      | (refine wpAny_ite_true (decide_eq_true c2) ?_; wp_walk using wpAny_loadPart' hl))
    exact ⟨_, rfl, h⟩
def rRep1 (K : PySem.W.Frag) : R2 := fun x y H Q => ∃ l k xs, x = .ref l ∧ y = .int k ∧ SqT K H l xs ∧ (xs = [] ∨ k = 1) ∧ -(2 ^ 63) ≤ k ∧ k < 2 ^ 63 ∧ Q (.ref l) H
def rRep0 (K : PySem.W.Frag) : R2 := fun x y H Q => ∃ l k xs, x = .ref l ∧ y = .int k ∧ SqT K H l xs ∧ xs ≠ [] ∧ -(2 ^ 63) ≤ k ∧ k ≤ 0 ∧ ∀ p, H p = none → Q (.ref p) (upd H p (.tup []))
section
variable {X : Cx}
theorem op_rep1 : OpR X (binaryOp .Mult) (rRep1 X.K) := by
  intro pins s σ H x y v u Q I rx ry h
  obtain ⟨l, k, xs, rfl, rfl, hT, h0, h1, h2, q⟩ := h
  cases rx
  obtain ⟨t, rfl⟩ := ry
  obtain ⟨its, r, ⟨⟨cls, dd, data, sl⟩, ho, hc, n, hd⟩, hs⟩ := I.tuple hT
  simp only at hc hd
  subst hc hd
  have c0 : (decide (k < -(2 ^ 63)) || decide (k ≥ 2 ^ 63)) = false := by
    rw [decide_eq_false (by omega), decide_eq_false (by omega)] <;> rfl
  have c1 : (its.toArray.isEmpty || k == 1) = true := by
    rcases h0 with e | e
    · subst e; cases r; rfl
    · subst e; simp
  exact wpAny_binaryOp_repeat_ref (T := "tuple") (U := "int") (by decide) ⟨_, ho, rfl⟩ (fun s' => typeIs_int s' k t) noFill_tuple_mul F.fills_int_mul F.slot_int_rmul repeat_tuple F.slot_int_index.lookup
    (call_meets F.slot_int_rmul (typeIs_int s k t) F.entry_int_rmul (F.args_int_rmul_2 _ _) (int_rmul_tuple k t l its.toArray n dd sl)
      ⟨ho, rfl, ⟨_, ho, rfl⟩, call_meets F.slot_tuple_mul ⟨_, ho, rfl⟩ F.entry_tuple_mul (F.args_tuple_mul_2 _ _) (tup_mul_same l its.toArray n dd sl k t c0 c1) ⟨ho, ⟨.ref l, H, I, rfl, q⟩⟩⟩)
theorem op_rep0 : OpR X (binaryOp .Mult) (rRep0 X.K) := by
  intro pins s σ H x y v u Q I rx ry h
  obtain ⟨l, k, xs, rfl, rfl, hT, h0, h1, h2, q⟩ := h
  cases rx
  obtain ⟨t, rfl⟩ := ry
  obtain ⟨its, r, ⟨⟨cls, dd, data, sl⟩, ho, hc, n, hd⟩, hs⟩ := I.tuple hT
  simp only at hc hd
  subst hc hd
  have c0 : (decide (k < -(2 ^ 63)) || decide (k ≥ 2 ^ 63)) = false := by
    rw [decide_eq_false (by omega), decide_eq_false (by omega)] <;> rfl
  have hi : its.toArray.isEmpty = false := by
    cases r with
    | nil => exact absurd rfl h0
    | cons a b => rfl
  have c1 : (its.toArray.isEmpty || k == 1) = false := by
    rw [hi, Bool.false_or]
    exact beq_eq_false_iff_ne.mpr (by omega)
  have c2 : (decide (k ≤ 0) || its.toArray.isEmpty) = true := by
    rw [hi, Bool.or_false]
    exact decide_eq_true (by omega)
  refine wpAny_binaryOp_repeat_ref (T := "tuple") (U := "int") (by decide) ⟨_, ho, rfl⟩ (fun s' => typeIs_int s' k t) noFill_tuple_mul F.fills_int_mul F.slot_int_rmul repeat_tuple F.slot_int_index.lookup
    (call_meets F.slot_int_rmul (typeIs_int s k t) F.entry_int_rmul (F.args_int_rmul_2 _ _) (int_rmul_tuple k t l its.toArray n dd sl)
      ⟨ho, rfl, ⟨_, ho, rfl⟩, call_meets F.slot_tuple_mul ⟨_, ho, rfl⟩ F.entry_tuple_mul (F.args_tuple_mul_2 _ _) (tup_mul_none l its.toArray n dd sl k t c0 c1 c2) ⟨ho, ?_⟩⟩)
  refine ⟨.ref s.heap.objs.size, _, I.laid (t' := s.toks) (o := .tup []) (fun b ob q => Heap.get?_push_of_some _ q) (Nat.le_refl _) ?_, rfl, q _ (I.hok.fresh (Nat.le_refl _))⟩
  exact ⟨by rw [sizeLine_eq]; simp, [], .nil, IsTup.new _ _⟩
end
end Ev

/-! Layer 1: deep values, the store, lifted judgements. -/
namespace Ev
open PySem PySem.Spec PyProof.Rows L2

/-- deep values: tuples are data, the rest of the objects are addresses -/
inductive Dt where
  | non | bl (b : Bool) | int (i : Int) | str (x : Str) | tup (xs : List Dt) | ref (a : Addr) | ty (n : String) | frl (xs : List Dt)

/-- what the store tells of an address -/
inductive Ob where
  | lst (xs : List Dt)
  | rd (xs : List Dt)
abbrev Sto := Addr → Option Ob
def put (S : Sto) (a : Addr) (o : Ob) : Sto := fun b => if b = a then some o else S b
theorem put_same {S : Sto} {a : Addr} {o : Ob} : put S a o a = some o := by unfold put; rw [if_pos rfl]
theorem put_ne {S : Sto} {a b : Addr} {o : Ob} (h : b ≠ a) : put S a o b = S b := by unfold put; rw [if_neg h]

/-- a list that stays as it is (the script) -/
def SqF (K : PySem.W.Frag) (H : Hp) (a : Addr) (vs : List V) : Prop := (∃ o, H a = some (.frz o (.lst vs))) ∨ SqL K (fun _ => none) a vs
mutual
inductive DR (K : PySem.W.Frag) (H : Hp) : Dt → V → Prop
  | non : DR K H .non .non
  | bl (b : Bool) : DR K H (.bl b) (.bl b)
  | int (i : Int) : DR K H (.int i) (.int i)
  | str (x : Str) : DR K H (.str x) (.str x)
  | ref (a : Addr) : DR K H (.ref a) (.ref a)
  | ty (n : String) : DR K H (.ty n) (.ty n)
  | tup {ds : List Dt} {vs : List V} {a : Addr} : SqT K H a vs → DRs K H ds vs → DR K H (.tup ds) (.ref a)
  | frl {ds : List Dt} {vs : List V} {a : Addr} : SqF K H a vs → DRs K H ds vs → DR K H (.frl ds) (.ref a)
inductive DRs (K : PySem.W.Frag) (H : Hp) : List Dt → List V → Prop
  | nil : DRs K H [] []
  | cons {d : Dt} {v : V} {ds : List Dt} {vs : List V} : DR K H d v → DRs K H ds vs → DRs K H (d :: ds) (v :: vs)
end

/-- what never goes: tuples, locked things, an exception's dict -/
structure Ext (H H' : Hp) : Prop where
  tup : ∀ a xs, H a = some (.tup xs) → H' a = some (.tup xs)
  frz : ∀ a o u, H a = some (.frz o u) → H' a = some (.frz o u)
theorem Ext.refl {H : Hp} : Ext H H := ⟨fun _ _ h => h, fun _ _ _ h => h⟩
theorem Ext.trans {H H1 H2 : Hp} (a : Ext H H1) (b : Ext H1 H2) : Ext H H2 :=
  ⟨fun x xs h => b.tup x xs (a.tup x xs h), fun x o u h => b.frz x o u (a.frz x o u h)⟩
theorem Ext.new {H : Hp} {p : Addr} {o : HO} (h : H p = none) : Ext H (upd H p o) :=
  ⟨fun x xs e => by rw [upd_ne (ne_of_none e h)]; exact e, fun x o u e => by rw [upd_ne (ne_of_none e h)]; exact e⟩
theorem Ext.lst {H : Hp} {p : Addr} {o : HO} {vs : List V} (h : H p = some (.lst vs)) : Ext H (upd H p o) :=
  ⟨fun x xs e => by rw [upd_ne (ne_of e h (by intro z; cases z))]; exact e, fun x o u e => by rw [upd_ne (ne_of e h (by intro z; cases z))]; exact e⟩
theorem SqT.ext {K : PySem.W.Frag} {H H' : Hp} {a : Addr} {vs : List V} (h : SqT K H a vs) (e : Ext H H') : SqT K H' a vs := by
  rcases h with (h | ⟨o, h⟩) | h
  · exact .inl (.inl (e.tup _ _ h))
  · exact .inl (.inr ⟨o, e.frz _ _ _ h⟩)
  · exact .inr h
theorem SqF.ext {K : PySem.W.Frag} {H H' : Hp} {a : Addr} {vs : List V} (h : SqF K H a vs) (e : Ext H H') : SqF K H' a vs := by
  rcases h with ⟨o, h⟩ | h
  · exact .inl ⟨o, e.frz _ _ _ h⟩
  · exact .inr h
theorem SqF.sq {K : PySem.W.Frag} {H : Hp} {a : Addr} {vs : List V} (h : SqF K H a vs) : SqL K H a vs := by
  rcases h with ⟨o, h⟩ | h
  · exact .inl (.inr ⟨o, h⟩)
  · rcases h with (h | ⟨o, h⟩) | h
    · cases h
    · cases h
    · exact .inr h
mutual
theorem DR.ext {K : PySem.W.Frag} {H H' : Hp} (e : Ext H H') : ∀ {d : Dt} {v : V}, DR K H d v → DR K H' d v
  | _, _, .non => .non
  | _, _, .bl b => .bl b
  | _, _, .int i => .int i
  | _, _, .str x => .str x
  | _, _, .ref a => .ref a
  | _, _, .ty n => .ty n
  | _, _, .tup h r => .tup (SqT.ext h e) (DRs.ext e r)
  | _, _, .frl h r => .frl (SqF.ext h e) (DRs.ext e r)
theorem DRs.ext {K : PySem.W.Frag} {H H' : Hp} (e : Ext H H') : ∀ {ds : List Dt} {vs : List V}, DRs K H ds vs → DRs K H' ds vs
  | _, _, .nil => .nil
  | _, _, .cons a b => .cons (DR.ext e a) (DRs.ext e b)
end
section
variable {K : PySem.W.Frag} {H H' : Hp}
theorem DRs.length : ∀ {ds : List Dt} {vs : List V}, DRs K H ds vs → ds.length = vs.length
  | _, _, .nil => rfl
  | _, _, .cons _ b => by simp [DRs.length b]
theorem DRs.get : ∀ {ds : List Dt} {vs : List V} {i : Nat} {d : Dt}, DRs K H ds vs → ds[i]? = some d → ∃ v, vs[i]? = some v ∧ DR K H d v
  | _, _, _, _, .nil, h => by simp at h
  | _, _, 0, _, .cons a _, h => by simp at h; subst h; exact ⟨_, rfl, a⟩
  | _, _, i + 1, d, .cons _ b, h => by
    obtain ⟨v, h1, h2⟩ := DRs.get (i := i) (d := d) b (by simpa using h)
    exact ⟨v, by simpa using h1, h2⟩
theorem DRs.app : ∀ {ds es : List Dt} {vs us : List V}, DRs K H ds vs → DRs K H es us → DRs K H (ds ++ es) (vs ++ us)
  | _, _, _, _, .nil, h => h
  | _, _, _, _, .cons a b, h => .cons a (DRs.app b h)
theorem DRs.set : ∀ {ds : List Dt} {vs : List V} {d : Dt} {v : V} (i : Nat), DRs K H ds vs → DR K H d v → DRs K H (ds.set i d) (vs.set i v)
  | _, _, _, _, _, .nil, _ => .nil
  | _, _, _, _, 0, .cons _ b, h => .cons h b
  | _, _, _, _, i + 1, .cons a b, h => .cons a (DRs.set i b h)
theorem DRs.take : ∀ {ds : List Dt} {vs : List V} (n : Nat), DRs K H ds vs → DRs K H (ds.take n) (vs.take n)
  | _, _, 0, _ => .nil
  | _, _, _ + 1, .nil => .nil
  | _, _, n + 1, .cons a b => .cons a (DRs.take n b)
theorem DRs.drop : ∀ {ds : List Dt} {vs : List V} (n : Nat), DRs K H ds vs → DRs K H (ds.drop n) (vs.drop n)
  | _, _, 0, h => h
  | _, _, _ + 1, .nil => .nil
  | _, _, n + 1, .cons _ b => DRs.drop n b
theorem DRs.rev {ds : List Dt} {vs : List V} (h : DRs K H ds vs) : DRs K H ds.reverse vs.reverse := by
  have : ∀ {ds : List Dt} {vs : List V}, DRs K H ds vs → DRs K H ds.reverse vs.reverse := by
    intro ds
    induction ds with
    | nil => intro vs h; cases h; exact .nil
    | cons d ds ih =>
      intro vs h
      cases h with
      | cons a b => rw [List.reverse_cons, List.reverse_cons]; exact DRs.app (ih b) (.cons a .nil)
  exact this h
theorem DRs.rep {ds : List Dt} {vs : List V} (h : DRs K H ds vs) : ∀ n : Nat, DRs K H (List.replicate n ds).flatten (List.replicate n vs).flatten
  | 0 => .nil
  | n + 1 => by rw [List.replicate_succ, List.replicate_succ, List.flatten_cons, List.flatten_cons]; exact DRs.app h (DRs.rep h n)
theorem DRs.drl {ds : List Dt} {vs : List V} (h : DRs K H ds vs) : DRs K H ds.dropLast vs.dropLast := by
  rw [List.dropLast_eq_take, List.dropLast_eq_take, h.length]
  exact h.take _
theorem DRs.inj_ints : ∀ {ns : List Int} {vs : List V}, DRs K H (ns.map Dt.int) vs → vs = ns.map V.int
  | [], _, h => by cases h; rfl
  | n :: ns, _, h => by
    cases h with
    | cons a b => cases a; rw [DRs.inj_ints b]; rfl
theorem DRs.ints : ∀ (ns : List Int), DRs K H (ns.map Dt.int) (ns.map V.int)
  | [] => .nil
  | n :: ns => .cons (.int n) (DRs.ints ns)
end

/-- an object as the store tells it -/
def ObR (K : PySem.W.Frag) (H : Hp) (a : Addr) : Ob → Prop
  | .lst ds => ∃ vs, H a = some (.lst vs) ∧ DRs K H ds vs
  | .rd ds => ∃ vs o, H a = some (.frz o (.lst vs)) ∧ DRs K H ds vs
def StoR (K : PySem.W.Frag) (H : Hp) (S : Sto) : Prop := ∀ a o, S a = some o → ObR K H a o
def SloR (K : PySem.W.Frag) (H : Hp) (σD : List (Option Dt)) (σ : List (Option V)) : Prop :=
  σD.length = σ.length ∧ ∀ (i : Nat) (d : Dt), σD[i]? = some (some d) → ∃ v : V, σ[i]? = some (some v) ∧ DR K H d v
section
variable {K : PySem.W.Frag} {H H' : Hp} {S : Sto} {σD : List (Option Dt)} {σ : L2.St}
theorem StoR.fresh (h : StoR K H S) {p : Addr} (e : H p = none) : S p = none := by
  cases q : S p with
  | none => rfl
  | some o =>
    have := h p o q
    cases o with
    | lst ds => obtain ⟨vs, e', _⟩ := this; rw [e] at e'; cases e'
    | rd ds => obtain ⟨vs, o, e', _⟩ := this; rw [e] at e'; cases e'
theorem SloR.ext (h : SloR K H σD σ) (e : Ext H H') : SloR K H' σD σ := ⟨h.1, fun i d q => let ⟨v, a, b⟩ := h.2 i d q; ⟨v, a, b.ext e⟩⟩
theorem SloR.set {d : Dt} {v : V} (h : SloR K H σD σ) (r : DR K H d v) (i : Nat) : SloR K H (σD.set i (some d)) (σ.set i (some v)) := by
  refine ⟨by simp [h.1], fun j e q => ?_⟩
  rw [List.getElem?_set] at q ⊢
  by_cases hij : i = j
  · rw [if_pos hij] at q ⊢
    by_cases hl : i < σD.length
    · rw [if_pos hl] at q; cases q
      rw [if_pos (by rw [← h.1]; exact hl)]
      exact ⟨v, rfl, r⟩
    · rw [if_neg hl] at q; cases q
  · rw [if_neg hij] at q ⊢
    exact h.2 j e q
theorem SloR.setNone (h : SloR K H σD σ) (i : Nat) : SloR K H (σD.set i none) (σ.set i none) := by
  refine ⟨by simp [h.1], fun j e q => ?_⟩
  rw [List.getElem?_set] at q ⊢
  by_cases hij : i = j
  · rw [if_pos hij] at q
    by_cases hl : i < σD.length
    · rw [if_pos hl] at q; cases q
    · rw [if_neg hl] at q; cases q
  · rw [if_neg hij] at q ⊢
    exact h.2 j e q
/-- a new object at a new place -/
theorem StoR.new {p : Addr} {o : HO} (h : StoR K H S) (e : H p = none) : StoR K (upd H p o) S := fun a ob q => by
  have x := h a ob q
  have ex : Ext H (upd H p o) := Ext.new e
  cases ob with
  | lst ds => obtain ⟨vs, e1, r⟩ := x; exact ⟨vs, by rw [upd_ne (ne_of_none e1 e)]; exact e1, r.ext ex⟩
  | rd ds => obtain ⟨vs, ob, e1, r⟩ := x; exact ⟨vs, ob, by rw [upd_ne (ne_of_none e1 e)]; exact e1, r.ext ex⟩
/-- a list is written -/
theorem StoR.wr {p : Addr} {vs : List V} {ds : List Dt} (h : StoR K H S) (e : (∃ us, H p = some (.lst us)) ∨ H p = none) (r : DRs K H ds vs) : StoR K (upd H p (.lst vs)) (put S p (.lst ds)) := fun a ob q => by
  have ex : Ext H (upd H p (.lst vs)) := e.elim (fun ⟨_, e⟩ => Ext.lst e) (fun e => Ext.new e)
  by_cases ha : a = p
  · subst ha
    rw [put_same] at q; cases q
    exact ⟨vs, upd_same, r.ext ex⟩
  · rw [put_ne ha] at q
    have x := h a ob q
    cases ob with
    | lst ds => obtain ⟨vs, e1, r⟩ := x; exact ⟨vs, by rw [upd_ne ha]; exact e1, r.ext ex⟩
    | rd ds => obtain ⟨vs, ob, e1, r⟩ := x; exact ⟨vs, ob, by rw [upd_ne ha]; exact e1, r.ext ex⟩
end
/-- less is told -/
def Sub (S S' : Sto) : Prop := ∀ a o, S a = some o → S' a = some o
theorem Sub.refl {S : Sto} : Sub S S := fun _ _ h => h
theorem Sub.trans {S S1 S2 : Sto} (a : Sub S S1) (b : Sub S1 S2) : Sub S S2 := fun x o h => b x o (a x o h)
theorem Sub.put {S : Sto} {p : Addr} {o : Ob} (h : S p = none) : Sub S (put S p o) := fun a ob q => by
  rw [put_ne (fun e => by rw [e, h] at q; cases q)]; exact q
theorem Sub.put2 {S S' : Sto} {p : Addr} {o : Ob} (h : S p = none) (s : Sub S S') : Sub S (Ev.put S' p o) := fun a ob q => by
  rw [put_ne (fun e => by rw [e, h] at q; cases q)]; exact s a ob q
theorem StoR.sub {K : PySem.W.Frag} {H : Hp} {S S' : Sto} (h : StoR K H S') (s : Sub S S') : StoR K H S := fun a o q => h a o (s a o q)

/-! ### readings over deep values -/
structure XD where
  cls : Value
  fld : Option (Str × Dt)
abbrev Slo := List (Option Dt)
abbrev QD := Dt → Sto → Prop
abbrev XQ := XD → Slo → Sto → Prop
abbrev RE := Slo → Sto → QD → XQ → Prop
abbrev RT := Slo → Sto → (Bool → Sto → Prop) → XQ → Prop
abbrev RA := Slo → Sto → (List Dt → Sto → Prop) → XQ → Prop
structure EndsD where
  nx : Slo → Sto → Prop
  rt : QD
  bk : Slo → Sto → Prop := fun _ _ => False
  ct : Slo → Sto → Prop := fun _ _ => False
  ex : XQ := fun _ _ _ => False
abbrev RS := EndsD → Slo → Sto → Prop

/-- an exception as told -/
def XR (K : PySem.W.Frag) (H : Hp) (x : XD) (cls : Value) (d : Option Addr) : Prop :=
  cls = x.cls ∧ match x.fld with
    | none => True
    | some (f, e) => ∃ a v, d = some a ∧ H a = some (.xd [(f, v)]) ∧ DR K H e v
def wxD (K : PySem.W.Frag) (R : XQ) : WX := fun cls d σ H => ∃ x σD S, XR K H x cls d ∧ SloR K H σD σ ∧ StoR K H S ∧ R x σD S
def TakesD (X : Cx) (R : XQ) : Prop := Takes X (wxD X.K R)
theorem TakesD.false {X : Cx} : TakesD X (fun _ _ _ => False) := Takes.imp LamX.takes0 fun c d σ H ⟨_, _, _, _, _, _, q⟩ => q.elim

def liftE (X : Cx) (t : RE) : TE := fun σ H Q => ∃ σD S QE R, SloR X.K H σD σ ∧ StoR X.K H S ∧ t σD S QE R ∧ TakesD X R ∧
  ∀ d S' v H', Ext H H' → DR X.K H' d v → StoR X.K H' S' → QE d S' → Q v H'
def liftT (X : Cx) (t : RT) : TT := fun σ H Q => ∃ σD S QE R, SloR X.K H σD σ ∧ StoR X.K H S ∧ t σD S QE R ∧ TakesD X R ∧
  ∀ b S' H', Ext H H' → StoR X.K H' S' → QE b S' → Q b H'
def liftA (X : Cx) (t : RA) : TA := fun σ H Q => ∃ σD S QE R, SloR X.K H σD σ ∧ StoR X.K H S ∧ t σD S QE R ∧ TakesD X R ∧
  ∀ ds S' vs H', Ext H H' → DRs X.K H' ds vs → StoR X.K H' S' → QE ds S' → Q vs H'
/-- ends that meet -/
structure EndsOk (X : Cx) (H : Hp) (DD : EndsD) (D : Ends) : Prop where
  nx : ∀ σD S σ H', Ext H H' → SloR X.K H' σD σ → StoR X.K H' S → DD.nx σD S → D.nx σ H'
  rt : ∀ d S v H', Ext H H' → DR X.K H' d v → StoR X.K H' S → DD.rt d S → D.rt v H'
  bk : ∀ σD S σ H', Ext H H' → SloR X.K H' σD σ → StoR X.K H' S → DD.bk σD S → D.bk σ H'
  ct : ∀ σD S σ H', Ext H H' → SloR X.K H' σD σ → StoR X.K H' S → DD.ct σD S → D.ct σ H'
  ex : TakesD X DD.ex
theorem EndsOk.ext {X : Cx} {H H1 : Hp} {DD : EndsD} {D : Ends} (o : EndsOk X H DD D) (e : Ext H H1) : EndsOk X H1 DD D :=
  ⟨fun σD S σ H' x => o.nx σD S σ H' (e.trans x), fun d S v H' x => o.rt d S v H' (e.trans x), fun σD S σ H' x => o.bk σD S σ H' (e.trans x), fun σD S σ H' x => o.ct σD S σ H' (e.trans x), o.ex⟩
def liftS (X : Cx) (t : RS) : TS := fun D σ H => ∃ σD S DD, SloR X.K H σD σ ∧ StoR X.K H S ∧ t DD σD S ∧ EndsOk X H DD D

def QE (X : Cx) (e : Expr) (t : RE) : Prop := PE X e (liftE X t)
def QT (X : Cx) (e : Expr) (t : RT) : Prop := PT X e (liftT X t)
def QW (X : Cx) (e : Expr) (t : RT) : Prop := PW X e (liftT X t)
def QA (X : Cx) (es : List Expr) (t : RA) : Prop := PA X es (liftA X t)
def QS (X : Cx) (s : Stmt) (t : RS) : Prop := PS X s (liftS X t)
def QSs (X : Cx) (s : List Stmt) (t : RS) : Prop := PSs X s (liftS X t)

section
variable {X : Cx} {e : Expr}
theorem PE.weak {t t' : TE} (h : PE X e t) (w : ∀ σ H Q, t' σ H Q → t σ H Q) : PE X e t' := ⟨fun pins s σ H Q I q => h.run pins s σ H Q I (w σ H Q q)⟩
theorem PT.weak {t t' : TT} (h : PT X e t) (w : ∀ σ H Q, t' σ H Q → t σ H Q) : PT X e t' := ⟨fun pins s σ H Q I q => h.run pins s σ H Q I (w σ H Q q)⟩
theorem PW.weak {t t' : TT} (h : PW X e t) (w : ∀ σ H Q, t' σ H Q → t σ H Q) : PW X e t' := ⟨fun wh pins s σ H Q I q => h.run wh pins s σ H Q I (w σ H Q q)⟩
theorem PA.weak {es : List Expr} {t t' : TA} (h : PA X es t) (w : ∀ σ H Q, t' σ H Q → t σ H Q) : PA X es t' := ⟨fun pos pins s σ H Q I q => h.run pos pins s σ H Q I (w σ H Q q)⟩
theorem PS.weak {st : Stmt} {t t' : TS} (h : PS X st t) (w : ∀ D σ H, t' D σ H → t D σ H) : PS X st t' := ⟨fun pins s σ H D I q => h.run pins s σ H D I (w D σ H q)⟩
theorem PSs.weak {st : List Stmt} {t t' : TS} (h : PSs X st t) (w : ∀ D σ H, t' D σ H → t D σ H) : PSs X st t' := ⟨fun pins s σ H D I q => h.run pins s σ H D I (w D σ H q)⟩
end

/-! ### names, constants -/
def rVar (i : Nat) : RE := fun σ S Q _ => ∃ d, σ[i]? = some (some d) ∧ Q d S
def rC (d : Dt) : RE := fun _ S Q _ => Q d S
section
variable {X : Cx} {a b c : Expr} {ta tb tc : RE} {pos : Pos}
theorem qe_var {i : Nat} {x : Str} (hN : X.N[i]? = some x) (hv : Vis X.env.scope x) (hd : (x == ("__debug__" : Str)) = false) (hcd : (x == ("__classdict__" : Str)) = false) : QE X (.Name x pos) (rVar i) :=
  PE.weak (pe_var hN hv hd hcd) fun σ H Q ⟨σD, S, QE, R, hs, hS, ⟨d, e1, q⟩, _, k⟩ => let ⟨v, e2, r⟩ := hs.2 i d e1; ⟨v, e2, k d S v H Ext.refl r hS q⟩
theorem qe_con {v : V} {d : Dt} (h : PE X a (tC v)) (r : ∀ H, DR X.K H d v) : QE X a (rC d) :=
  PE.weak h fun σ H Q h => by
    obtain ⟨σD, S, QE, R, hs, hS, q, _, k⟩ := h
    exact k d S v H Ext.refl (r H) hS q
/-! ### two in a row -/
def rBin (f : Dt → Dt → Sto → QD → Prop) (ta tb : RE) : RE := fun σ S Q R => ta σ S (fun x S1 => tb σ S1 (fun y S2 => f x y S2 Q) R) R
theorem lift_bin {f : Dt → Dt → Sto → QD → Prop} {r : V → V → Hp → VK → Prop} {σ : L2.St} {H : Hp} {Q : VK}
    (hf : ∀ x y S QE v u H Q, DR X.K H x v → DR X.K H y u → StoR X.K H S → f x y S QE → (∀ d S' v' H', Ext H H' → DR X.K H' d v' → StoR X.K H' S' → QE d S' → Q v' H') → r v u H Q)
    (h : liftE X (rBin f ta tb) σ H Q) : tOp r (liftE X ta) (liftE X tb) σ H Q := by
  obtain ⟨σD, S, QE, R, hs, hS, q, tk, k⟩ := h
  refine ⟨σD, S, _, R, hs, hS, q, tk, fun x S1 v H1 e1 r1 hS1 q1 => ?_⟩
  refine ⟨σD, S1, _, R, hs.ext e1, hS1, q1, tk, fun y S2 u H2 e2 r2 hS2 q2 => ?_⟩
  exact hf x y S2 QE v u H2 Q (r1.ext e2) r2 hS2 q2 fun d S' v' H' e3 => k d S' v' H' (e1.trans (e2.trans e3))
/-- f goes by the rule r -/
def FitR (X : Cx) (f : Dt → Dt → Sto → QD → Prop) (r : V → V → Hp → VK → Prop) : Prop :=
  ∀ x y S QE v u H Q, DR X.K H x v → DR X.K H y u → StoR X.K H S → f x y S QE → (∀ d S' v' H', Ext H H' → DR X.K H' d v' → StoR X.K H' S' → QE d S' → Q v' H') → r v u H Q
theorem qe_bin {op : Operator} {f : Dt → Dt → Sto → QD → Prop} {r : R2} (ho : OpR X (binaryOp op) r) (hf : FitR X f r) (ha : QE X a ta) (hb : QE X b tb) : QE X (.BinOp a op b pos) (rBin f ta tb) :=
  PE.weak (pe_op ho ha hb) fun σ H Q h => lift_bin hf h
theorem qe_cmp {op : CmpOp} {f : Dt → Dt → Sto → QD → Prop} {r : R2} (ho : OpR X (compareOp op) r) (hf : FitR X f r) (ha : QE X a ta) (hb : QE X b tb) (hm : behindInMarks op b = false) : QE X (.Compare a [op] [b] pos) (rBin f ta tb) :=
  PE.weak (pe_cmpR ho ha hb hm) fun σ H Q h => lift_bin hf h
/-- the value's truth -/
def truD : Dt → Sto → Option Bool
  | .non, _ => some false
  | .bl b, _ => some b
  | .int i, _ => some (i != 0)
  | .tup xs, _ => some (!xs.isEmpty)
  | .str x, _ => if x.length ≤ sizeLine then some ((x.length : Int) != 0) else none
  | .ref a, S => match S a with
    | some (.lst xs) => some (!xs.isEmpty)
    | some (.rd xs) => some (!xs.isEmpty)
    | none => none
  | _, _ => none
theorem SqL.of_lst {K : PySem.W.Frag} {H : Hp} {a : Addr} {vs : List V} (h : H a = some (.lst vs)) : SqL K H a vs := .inl (.inl h)
theorem isEmpty_drs {K : PySem.W.Frag} {H : Hp} {ds : List Dt} {vs : List V} (r : DRs K H ds vs) : ds.isEmpty = vs.isEmpty := by cases r <;> rfl
theorem truD_ok {x : Dt} {v : V} {H : Hp} {S : Sto} {b : Bool} (r : DR X.K H x v) (hS : StoR X.K H S) (h : truD x S = some b) : TruV X.K v H b := by
  cases r with
  | non => cases h; rfl
  | bl b => cases h; rfl
  | int i => cases h; rfl
  | str x =>
    have h : (if x.length ≤ sizeLine then some ((x.length : Int) != 0) else none) = some b := h
    split at h
    · rename_i hl
      cases h; exact ⟨hl, rfl⟩
    · cases h
  | ref a =>
    have h : (match S a with
      | some (.lst xs) => some (!xs.isEmpty)
      | some (.rd xs) => some (!xs.isEmpty)
      | none => none) = some b := h
    split at h
    · rename_i xs e
      obtain ⟨vs, e1, r1⟩ := hS a _ e
      cases h
      exact .inl ⟨vs, SqL.of_lst e1, by rw [isEmpty_drs r1]⟩
    · rename_i xs e
      obtain ⟨vs, o, e1, r1⟩ := hS a _ e
      cases h
      exact .inl ⟨vs, .inl (.inr ⟨o, e1⟩), by rw [isEmpty_drs r1]⟩
    · cases h
  | ty n => cases h
  | tup hq r1 => cases h; exact .inr (.inl ⟨_, hq, by rw [isEmpty_drs r1]⟩)
  | frl hq r1 => cases h
/-- an expression as a test, by its truth -/
def rTru (t : RE) : RT := fun σ S Q R => t σ S (fun x S1 => ∃ b, truD x S1 = some b ∧ Q b S1) R
theorem qt_tru (ha : QE X a ta) (he : ∀ whole, isTrue a X.env whole = (do let v ← whole; standAt a.pos; holding [v] (truthy v))) : QT X a (rTru ta) :=
  PT.weak (pt_truth ha he) fun σ H Q ⟨σD, S, QE, R, hs, hS, q, tk, k⟩ =>
    ⟨σD, S, _, R, hs, hS, q, tk, fun d S' v H' e r hS' ⟨b, e1, q1⟩ => ⟨b, truD_ok r hS' e1, k b S' H' e hS' q1⟩⟩
/-- a comparison as a test -/
def rTest (t : RE) : RT := fun σ S Q R => t σ S (fun x S1 => ∃ b, x = .bl b ∧ Q b S1) R
theorem lift_test {σ : L2.St} {H : Hp} {Q : Bool → Hp → Prop} {t : RE} {t' : TE} (h : liftT X (rTest t) σ H Q) (w : ∀ Q', liftE X t σ H Q' → t' σ H Q') : tTest t' σ H Q := by
  obtain ⟨σD, S, QE, R, hs, hS, q, tk, k⟩ := h
  refine w _ ⟨σD, S, _, R, hs, hS, q, tk, fun d S' v H' e r hS' q1 => ?_⟩
  obtain ⟨b, rfl, q1⟩ := q1
  cases r
  exact ⟨b, rfl, k b S' H' e hS' q1⟩
theorem qt_cmp {op : CmpOp} {f : Dt → Dt → Sto → QD → Prop} {r : R2} (ho : OpR X (compareOp op) r) (hf : FitR X f r) (ha : QE X a ta) (hb : QE X b tb) (hm : behindInMarks op b = false) : QT X (.Compare a [op] [b] pos) (rTest (rBin f ta tb)) :=
  PT.weak (pt_cmpR ho ha hb hm) fun σ H Q h => lift_test h fun Q' h' => lift_bin hf h'
def rChain (f f' : Dt → Dt → Sto → QD → Prop) (ta tb tc : RE) : RE := fun σ S Q R => ta σ S (fun x S1 => tb σ S1 (fun y S2 => f x y S2 fun z S3 => ∃ k, z = .bl k ∧ (if k = true then tc σ S3 (fun w S4 => f' y w S4 Q) R else Q (.bl false) S3)) R) R
theorem lift_chain {f f' : Dt → Dt → Sto → QD → Prop} {r r' : R2} (hf : FitR X f r) (hf' : FitR X f' r') {σ : L2.St} {H : Hp} {Q : VK} (h : liftE X (rChain f f' ta tb tc) σ H Q) :
    tChain r r' (liftE X ta) (liftE X tb) (liftE X tc) σ H Q := by
  obtain ⟨σD, S, QE, R, hs, hS, q, tk, k⟩ := h
  refine ⟨σD, S, _, R, hs, hS, q, tk, fun x S1 v H1 e1 r1 hS1 q1 => ?_⟩
  refine ⟨σD, S1, _, R, hs.ext e1, hS1, q1, tk, fun y S2 u H2 e2 r2 hS2 q2 => ?_⟩
  refine hf x y S2 _ v u H2 _ (r1.ext e2) r2 hS2 q2 fun z S3 v' H3 e3 r3 hS3 q3 => ?_
  obtain ⟨b, rfl, q3⟩ := q3
  cases r3
  refine ⟨b, rfl, ?_⟩
  cases b with
  | false => exact k _ _ _ _ (e1.trans (e2.trans e3)) (.bl false) hS3 q3
  | true => exact ⟨σD, S3, _, R, (hs.ext e1).ext (e2.trans e3), hS3, q3, tk, fun w S4 v4 H4 e4 r4 hS4 q4 =>
      hf' y w S4 QE u v4 H4 Q (r2.ext (e3.trans e4)) r4 hS4 q4 fun d S' v' H' e5 => k d S' v' H' (e1.trans (e2.trans (e3.trans (e4.trans e5))))⟩
theorem qe_chain {op op' : CmpOp} {f f' : Dt → Dt → Sto → QD → Prop} {r r' : R2} (ho : OpR X (compareOp op) r) (ho' : OpR X (compareOp op') r') (hf : FitR X f r) (hf' : FitR X f' r') (ha : QE X a ta) (hb : QE X b tb) (hc : QE X c tc)
    (hm : lastMarks [op, op'] [b, c] = false) : QE X (.Compare a [op, op'] [b, c] pos) (rChain f f' ta tb tc) :=
  PE.weak (pe_chain ho ho' ha hb hc hm) fun σ H Q h => lift_chain hf hf' h
theorem qt_chain {op op' : CmpOp} {f f' : Dt → Dt → Sto → QD → Prop} {r r' : R2} (ho : OpR X (compareOp op) r) (ho' : OpR X (compareOp op') r') (hf : FitR X f r) (hf' : FitR X f' r') (ha : QE X a ta) (hb : QE X b tb) (hc : QE X c tc)
    (hm : lastMarks [op, op'] [b, c] = false) : QT X (.Compare a [op, op'] [b, c] pos) (rTest (rChain f f' ta tb tc)) :=
  PT.weak (pt_chain ho ho' ha hb hc hm) fun σ H Q h => lift_test h fun Q' h' => lift_chain hf hf' h'
end
end Ev

namespace Ev
open PySem PySem.Spec PyProof.Rows L2

/-! ### operators -/
def lstOf (S : Sto) (a : Addr) : Option (List Dt) := match S a with
  | some (.lst xs) => some xs
  | some (.rd xs) => some xs
  | none => none
theorem lstOf_ok {K : PySem.W.Frag} {H : Hp} {S : Sto} {a : Addr} {ds : List Dt} (hS : StoR K H S) (h : lstOf S a = some ds) : ∃ vs, SqL K H a vs ∧ DRs K H ds vs := by
  unfold lstOf at h
  split at h
  · rename_i xs e
    obtain ⟨vs, e1, r⟩ := hS a _ e
    cases h
    exact ⟨vs, SqL.of_lst e1, r⟩
  · rename_i xs e
    obtain ⟨vs, o, e1, r⟩ := hS a _ e
    cases h
    exact ⟨vs, .inl (.inr ⟨o, e1⟩), r⟩
  · cases h
def addD : Dt → Dt → Sto → QD → Prop
  | .int i, .int j, S, Q => Q (.int (i + j)) S
  | .tup xs, .tup ys, S, Q => xs.length + ys.length ≤ sizeLine ∧ Q (.tup (xs ++ ys)) S
  | .str x, .str y, S, Q => x.length + y.length ≤ sizeLine ∧ Q (.str (x ++ y)) S
  | .ref a, .ref b, S, Q => ∃ xs ys, S a = some (.lst xs) ∧ S b = some (.lst ys) ∧ xs.length + ys.length ≤ sizeLine ∧ ∀ p, S p = none → Q (.ref p) (put S p (.lst (xs ++ ys)))
  | _, _, _, _ => False
def subD : Dt → Dt → Sto → QD → Prop
  | .int i, .int j, S, Q => Q (.int (i - j)) S
  | _, _, _, _ => False
/-- an int's size -/
def Bt (n : Nat) (i : Int) : Prop := i.natAbs < 2 ^ n
def mulOk (i j : Int) : Prop := CMulW i j
def mulD : Dt → Dt → Sto → QD → Prop
  | .int i, .int j, S, Q => mulOk i j ∧ Q (.int (i * j)) S
  | .ref a, .int k, S, Q => ∃ xs, S a = some (.lst xs) ∧ -(2 ^ 63) ≤ k ∧ k < 2 ^ 63 ∧ xs.length * k.toNat ≤ sizeLine ∧ ∀ p, S p = none → Q (.ref p) (put S p (.lst (List.replicate k.toNat xs).flatten))
  | .tup xs, .int k, S, Q => -(2 ^ 62) ≤ k ∧ k ≤ 1000 ∧ xs.length ≤ 1000 ∧ Q (.tup (List.replicate k.toNat xs).flatten) S
  | _, _, _, _ => False
def divOk (j : Int) : Prop := 0 < j ∧ j.natAbs.log2 < 9000
def fdivD : Dt → Dt → Sto → QD → Prop
  | .int i, .int j, S, Q => divOk j ∧ Q (.int (i / j)) S
  | _, _, _, _ => False
def modD : Dt → Dt → Sto → QD → Prop
  | .int i, .int j, S, Q => 0 < j ∧ Q (.int (i % j)) S
  | _, _, _, _ => False
def powD : Dt → Dt → Sto → QD → Prop
  | .int i, .int j, S, Q => CPow i j ∧ Q (.int (i ^ j.toNat)) S
  | _, _, _, _ => False
def cmpD (p : Int → Int → Bool) : Dt → Dt → Sto → QD → Prop
  | .int i, .int j, S, Q => Q (.bl (p i j)) S
  | _, _, _, _ => False
def isNon : Dt → Bool
  | .non => true
  | _ => false
def isD : Dt → Dt → Sto → QD → Prop
  | x, .non, S, Q => Q (.bl (isNon x)) S
  | _, _, _, _ => False
def isnD : Dt → Dt → Sto → QD → Prop
  | x, .non, S, Q => Q (.bl (!isNon x)) S
  | _, _, _, _ => False

section
variable {X : Cx}
theorem fit_add : FitR X addD (fun x y H Q => rI0 (fun i j => .int (i + j)) x y H Q ∨ (rCatA X.K x y H Q ∨ ((fun x y H Q => ∃ i j, x = .str i ∧ y = .str j ∧ i.length + j.length ≤ sizeLine ∧ Q (.str (i ++ j)) H) x y H Q ∨ rCat x y H Q))) := by
  intro x y S QE v u H Q rx ry hS h k
  cases rx <;> cases ry <;> first | exact False.elim h | skip
  case int.int i j => exact .inl ⟨i, j, rfl, rfl, k _ _ _ _ Ext.refl (.int _) hS h⟩
  case str.str i j => exact .inr (.inr (.inl ⟨i, j, rfl, rfl, h.1, k _ _ _ _ Ext.refl (.str _) hS h.2⟩))
  case ref.ref a b =>
    obtain ⟨xs, ys, e1, e2, hl, q⟩ := h
    obtain ⟨vs, g1, r1⟩ := hS a _ e1
    obtain ⟨us, g2, r2⟩ := hS b _ e2
    refine .inr (.inr (.inr ⟨a, b, vs, us, rfl, rfl, g1, g2, by rw [← r1.length, ← r2.length]; exact hl, fun p hp => ?_⟩))
    exact k _ _ _ _ (Ext.new hp) (.ref p) (hS.wr (.inr hp) (DRs.app r1 r2)) (q p (hS.fresh hp))
  case tup.tup ds vs a hq r ds' vs' b hq' r' =>
    obtain ⟨hl, q⟩ := h
    refine .inr (.inl ⟨a, b, vs, vs', rfl, rfl, hq, hq', by rw [← r.length, ← r'.length]; exact hl, fun e => ?_, fun e1 e2 => ?_, fun e1 e2 p hp => ?_⟩)
    · subst e; cases r
      exact k _ _ _ _ Ext.refl (.tup hq' r') hS q
    · subst e2; cases r'
      rw [List.append_nil] at q
      exact k _ _ _ _ Ext.refl (.tup hq r) hS q
    · exact k _ _ _ _ (Ext.new hp) (.tup (SqT.of upd_same) (DRs.ext (Ext.new hp) (DRs.app r r'))) (hS.new hp) q
theorem or_add : OpR X (binaryOp .Add) (fun x y H Q => rI0 (fun i j => .int (i + j)) x y H Q ∨ (rCatA X.K x y H Q ∨ ((fun x y H Q => ∃ i j, x = .str i ∧ y = .str j ∧ i.length + j.length ≤ sizeLine ∧ Q (.str (i ++ j)) H) x y H Q ∨ rCat x y H Q))) :=
  op_add.or (op_catA.or (op_add_str.or op_cat))
theorem fit_sub : FitR X subD (rI0 fun i j => .int (i - j)) := by
  intro x y S QE v u H Q rx ry hS h k
  cases rx <;> cases ry <;> first | exact False.elim h | skip
  exact ⟨_, _, rfl, rfl, k _ _ _ _ Ext.refl (.int _) hS h⟩
theorem fit_mul : FitR X mulD (fun x y H Q => rI CMulW (fun i j => .int (i * j)) x y H Q ∨ (rRep x y H Q ∨ (rRepT X.K x y H Q ∨ (rRep1 X.K x y H Q ∨ rRep0 X.K x y H Q)))) := by
  intro x y S QE v u H Q rx ry hS h k
  cases rx <;> cases ry <;> first | exact False.elim h | skip
  case int.int i j => exact .inl ⟨i, j, rfl, rfl, h.1, k _ _ _ _ Ext.refl (.int _) hS h.2⟩
  case ref.int a j =>
    obtain ⟨xs, e1, h1, h2, hl, q⟩ := h
    obtain ⟨vs, g1, r1⟩ := hS a _ e1
    refine .inr (.inl ⟨a, j, vs, rfl, rfl, g1, h1, h2, by rw [← r1.length]; exact hl, fun p hp => ?_⟩)
    exact k _ _ _ _ (Ext.new hp) (.ref p) (hS.wr (.inr hp) (DRs.rep r1 _)) (q p (hS.fresh hp))
  case tup.int ds vs a hq r j =>
    obtain ⟨h1, h2, hl, q⟩ := h
    by_cases hz : ds = [] ∨ j = 1
    · refine .inr (.inr (.inr (.inl ⟨a, j, vs, rfl, rfl, hq, ?_, by omega, by omega, ?_⟩)))
      · rcases hz with e | e
        · subst e; cases r; exact .inl rfl
        · exact .inr e
      · refine k _ _ _ _ Ext.refl (.tup hq ?_) hS q
        rcases hz with e | e
        · subst e; cases r
          have : (List.replicate j.toNat ([] : List Dt)).flatten = [] := by simp
          rw [this]; exact .nil
        · subst e
          have : (List.replicate (1 : Int).toNat ds).flatten = ds := by simp
          rw [this]; exact r
    · have hne : vs ≠ [] := fun e => hz (.inl (by subst e; cases r; rfl))
      by_cases hk : j ≤ 0
      · refine .inr (.inr (.inr (.inr ⟨a, j, vs, rfl, rfl, hq, hne, by omega, hk, fun p hp => ?_⟩)))
        have e0 : j.toNat = 0 := by omega
        rw [e0] at q
        exact k _ _ _ _ (Ext.new hp) (.tup (SqT.of upd_same) .nil) (hS.new hp) q
      · refine .inr (.inr (.inl ⟨a, j, vs, rfl, rfl, hq, hne, by omega, h2, by rw [← r.length]; exact hl, fun p hp => ?_⟩))
        exact k _ _ _ _ (Ext.new hp) (.tup (SqT.of upd_same) (DRs.ext (Ext.new hp) (DRs.rep r _))) (hS.new hp) q
theorem or_mul : OpR X (binaryOp .Mult) (fun x y H Q => rI CMulW (fun i j => .int (i * j)) x y H Q ∨ (rRep x y H Q ∨ (rRepT X.K x y H Q ∨ (rRep1 X.K x y H Q ∨ rRep0 X.K x y H Q)))) := op_mulW.or (op_rep.or (op_repT.or (op_rep1.or op_rep0)))
theorem fit_fdiv : FitR X fdivD (rI CDivW fun i j => .int (i / j)) := by
  intro x y S QE v u H Q rx ry hS h k
  cases rx <;> cases ry <;> first | exact False.elim h | skip
  exact ⟨_, _, rfl, rfl, h.1, k _ _ _ _ Ext.refl (.int _) hS h.2⟩
theorem fit_mod : FitR X modD (rI (fun _ j => 0 < j) fun i j => .int (i % j)) := by
  intro x y S QE v u H Q rx ry hS h k
  cases rx <;> cases ry <;> first | exact False.elim h | skip
  exact ⟨_, _, rfl, rfl, h.1, k _ _ _ _ Ext.refl (.int _) hS h.2⟩
theorem fit_pow : FitR X powD (rI CPow fun i j => .int (i ^ j.toNat)) := by
  intro x y S QE v u H Q rx ry hS h k
  cases rx <;> cases ry <;> first | exact False.elim h | skip
  exact ⟨_, _, rfl, rfl, h.1, k _ _ _ _ Ext.refl (.int _) hS h.2⟩
theorem fit_cmp {p : Int → Int → Bool} : FitR X (cmpD p) (rI0 fun i j => .bl (p i j)) := by
  intro x y S QE v u H Q rx ry hS h k
  cases rx <;> cases ry <;> first | exact False.elim h | skip
  exact ⟨_, _, rfl, rfl, k _ _ _ _ Ext.refl (.bl _) hS h⟩
theorem isNon_ok {K : PySem.W.Frag} {H : Hp} {x : Dt} {v : V} (r : DR K H x v) : isNon x = decide (v = .non) := by
  cases r <;> simp [isNon]
theorem fit_is : FitR X isD (fun x y H Q => y = .non ∧ Q (.bl (decide (x = .non))) H) := by
  intro x y S QE v u H Q rx ry hS h k
  cases ry <;> first | exact False.elim h | skip
  have e := isNon_ok rx
  exact ⟨rfl, by rw [← e]; exact k _ _ _ _ Ext.refl (.bl _) hS h⟩
theorem fit_isn : FitR X isnD (fun x y H Q => y = .non ∧ Q (.bl (!decide (x = .non))) H) := by
  intro x y S QE v u H Q rx ry hS h k
  cases ry <;> first | exact False.elim h | skip
  have e := isNon_ok rx
  exact ⟨rfl, by rw [← e]; exact k _ _ _ _ Ext.refl (.bl _) hS h⟩
end

/-! ### == of data -/
mutual
inductive DP (S : Sto) : Dt → PyData → Prop
  | non : DP S .non .none
  | bl (b : Bool) : DP S (.bl b) (.bool b)
  | int (i : Int) : DP S (.int i) (.int i)
  | str (x : Str) : DP S (.str x) (.str x)
  | tup {ds : List Dt} {ps : List PyData} : DPs S ds ps → DP S (.tup ds) (.tuple ps)
  | lst {a : Addr} {ds : List Dt} {ps : List PyData} : lstOf S a = some ds → DPs S ds ps → DP S (.ref a) (.list ps)
inductive DPs (S : Sto) : List Dt → List PyData → Prop
  | nil : DPs S [] []
  | cons {d : Dt} {p : PyData} {ds : List Dt} {ps : List PyData} : DP S d p → DPs S ds ps → DPs S (d :: ds) (p :: ps)
end
mutual
theorem DP.dp {K : PySem.W.Frag} {H : Hp} {S : Sto} (hS : StoR K H S) : ∀ {d : Dt} {p : PyData} {v : V}, DP S d p → DR K H d v → Dp K H v p
  | _, _, _, .non, r => by cases r; exact .non
  | _, _, _, .bl b, r => by cases r; exact .bl b
  | _, _, _, .int i, r => by cases r; exact .int i
  | _, _, _, .str x, r => by cases r; exact .str x
  | _, _, _, .tup h, r => by cases r with | tup hq r => exact .tup hq (DPs.dp hS h r)
  | _, _, _, .lst e h, r => by
    cases r
    obtain ⟨vs, hq, r⟩ := lstOf_ok hS e
    exact .lst hq (DPs.dp hS h r)
theorem DPs.dp {K : PySem.W.Frag} {H : Hp} {S : Sto} (hS : StoR K H S) : ∀ {ds : List Dt} {ps : List PyData} {vs : List V}, DPs S ds ps → DRs K H ds vs → DpAll K H vs ps
  | _, _, _, .nil, r => by cases r; exact .nil
  | _, _, _, .cons a b, r => by cases r with | cons r1 r2 => exact .cons (DP.dp hS a r1) (DPs.dp hS b r2)
end
def eqR (S : Sto) (x y : Dt) (b : Bool) : Prop := ∃ p q, DP S x p ∧ DP S y q ∧ SeqAt.shaped p = true ∧ SeqAt.shaped q = true ∧ b = PyData.eqv p q
def eqD : Dt → Dt → Sto → QD → Prop
  | .str i, .str j, S, Q => Q (.bl (decide (i = j))) S
  | x, y, S, Q => ∃ b, eqR S x y b ∧ Q (.bl b) S
def neD : Dt → Dt → Sto → QD → Prop
  | .str i, .str j, S, Q => Q (.bl (!decide (i = j))) S
  | x, y, S, Q => ∃ b, eqR S x y b ∧ Q (.bl (!b)) S
theorem eqD_cases {x y : Dt} {S : Sto} {Q : QD} (h : eqD x y S Q) : (∃ i j, x = .str i ∧ y = .str j ∧ Q (.bl (decide (i = j))) S) ∨ ∃ b, eqR S x y b ∧ Q (.bl b) S := by
  unfold eqD at h
  split at h
  · exact .inl ⟨_, _, rfl, rfl, h⟩
  · exact .inr h
theorem neD_cases {x y : Dt} {S : Sto} {Q : QD} (h : neD x y S Q) : (∃ i j, x = .str i ∧ y = .str j ∧ Q (.bl (!decide (i = j))) S) ∨ ∃ b, eqR S x y b ∧ Q (.bl (!b)) S := by
  unfold neD at h
  split at h
  · exact .inl ⟨_, _, rfl, rfl, h⟩
  · exact .inr h
theorem dec_str {i j : Str} : decide (V.str i = V.str j) = decide (i = j) := by
  by_cases h : i = j
  · subst h; simp
  · rw [decide_eq_false h, decide_eq_false (fun e => h (by cases e; rfl))]
section
variable {X : Cx}
theorem fit_eq : FitR X eqD (fun x y H Q => rEq x y H Q ∨ rEqD X.K x y H Q) := by
  intro x y S QE v u H Q rx ry hS h k
  rcases eqD_cases h with ⟨i, j, rfl, rfl, h⟩ | ⟨b, ⟨p, q, h1, h2, s1, s2, rfl⟩, h⟩
  · cases rx; cases ry
    exact .inl ⟨rfl, by rw [dec_str]; exact k _ _ _ _ Ext.refl (.bl _) hS h⟩
  · exact .inr ⟨p, q, h1.dp hS rx, h2.dp hS ry, s1, s2, k _ _ _ _ Ext.refl (.bl _) hS h⟩
theorem fit_ne : FitR X neD (fun x y H Q => rNe x y H Q ∨ rNeD X.K x y H Q) := by
  intro x y S QE v u H Q rx ry hS h k
  rcases neD_cases h with ⟨i, j, rfl, rfl, h⟩ | ⟨b, ⟨p, q, h1, h2, s1, s2, rfl⟩, h⟩
  · cases rx; cases ry
    exact .inl ⟨rfl, by rw [dec_str]; exact k _ _ _ _ Ext.refl (.bl _) hS h⟩
  · exact .inr ⟨p, q, h1.dp hS rx, h2.dp hS ry, s1, s2, k _ _ _ _ Ext.refl (.bl _) hS h⟩
end

/-! ### one-place operators, and, or, not, if -/
def rNeg (ta : RE) : RE := fun σ S Q R => ta σ S (fun x S1 => ∃ i, x = .int i ∧ Q (.int (-i)) S1) R
def rNot (t : RT) : RT := fun σ S Q R => t σ S (fun b S1 => Q (!b) S1) R
def rVal (t : RT) : RE := fun σ S Q R => t σ S (fun b S1 => Q (.bl b) S1) R
def rAnd (t u : RT) : RT := fun σ S Q R => t σ S (fun c S1 => if c = true then u σ S1 Q R else Q false S1) R
def rOr (t u : RT) : RT := fun σ S Q R => t σ S (fun c S1 => if c = true then Q true S1 else u σ S1 Q R) R
def rIf (t : RT) (ta tb : RE) : RE := fun σ S Q R => t σ S (fun c S1 => if c = true then ta σ S1 Q R else tb σ S1 Q R) R
/-- and, or as values whose parts but the last are bools -/
def rAndV (ta tb : RE) : RE := fun σ S Q R => ta σ S (fun x S1 => ∃ c, x = .bl c ∧ if c = true then tb σ S1 Q R else Q (.bl false) S1) R
def rOrV (ta tb : RE) : RE := fun σ S Q R => ta σ S (fun x S1 => ∃ c, x = .bl c ∧ if c = true then Q (.bl true) S1 else tb σ S1 Q R) R
def rNotV (ta : RE) : RE := fun σ S Q R => ta σ S (fun x S1 => ∃ c, x = .bl c ∧ Q (.bl (!c)) S1) R
section
variable {X : Cx} {a b c : Expr} {ta tb tc : RE} {pos : Pos} {tA tB : RT} {rest : List Expr}
theorem qe_neg (ha : QE X a ta) : QE X (.UnaryOp .USub a pos) (rNeg ta) :=
  PE.weak (pe_un un_neg ha) fun σ H Q h => by
    obtain ⟨σD, S, QE, R, hs, hS, q, tk, k⟩ := h
    refine ⟨σD, S, _, R, hs, hS, q, tk, fun d S' v H' e r hS' q1 => ?_⟩
    obtain ⟨i, rfl, q1⟩ := q1
    cases r
    exact ⟨i, rfl, k _ _ _ _ e (.int _) hS' q1⟩
theorem qe_notV (ha : QE X a ta) : QE X (.UnaryOp .Not a pos) (rNotV ta) :=
  PE.weak (pe_not ha) fun σ H Q h => by
    obtain ⟨σD, S, QE, R, hs, hS, q, tk, k⟩ := h
    refine ⟨σD, S, _, R, hs, hS, q, tk, fun d S' v H' e r hS' q1 => ?_⟩
    obtain ⟨i, rfl, q1⟩ := q1
    cases r
    exact ⟨i, rfl, k _ _ _ _ e (.bl _) hS' q1⟩
theorem qt_not (ha : QT X a tA) : QT X (.UnaryOp .Not a pos) (rNot tA) :=
  PT.weak (pt_not ha) fun σ H Q h => by
    obtain ⟨σD, S, QE, R, hs, hS, q, tk, k⟩ := h
    exact ⟨σD, S, _, R, hs, hS, q, tk, fun d S' H' e hS' q1 => k _ _ _ e hS' q1⟩
theorem qe_one {op : BoolOp} (h : QE X a ta) : QE X (.BoolOp op [a] pos) ta := pe_one h
theorem qe_and (ha : QE X a ta) (hb : QE X (.BoolOp .And (b :: rest) pos) tb) : QE X (.BoolOp .And (a :: b :: rest) pos) (rAndV ta tb) :=
  PE.weak (pe_and ha hb) fun σ H Q h => by
    obtain ⟨σD, S, QE, R, hs, hS, q, tk, k⟩ := h
    refine ⟨σD, S, _, R, hs, hS, q, tk, fun d S' v H' e r hS' q1 => ?_⟩
    obtain ⟨i, rfl, q1⟩ := q1
    cases r
    refine ⟨i, rfl, ?_⟩
    cases i with
    | true => exact ⟨σD, S', QE, R, hs.ext e, hS', q1, tk, fun d S2 v H2 e2 => k d S2 v H2 (e.trans e2)⟩
    | false => exact k _ _ _ _ e (.bl _) hS' q1
theorem qe_or (ha : QE X a ta) (hb : QE X (.BoolOp .Or (b :: rest) pos) tb) : QE X (.BoolOp .Or (a :: b :: rest) pos) (rOrV ta tb) :=
  PE.weak (pe_or ha hb) fun σ H Q h => by
    obtain ⟨σD, S, QE, R, hs, hS, q, tk, k⟩ := h
    refine ⟨σD, S, _, R, hs, hS, q, tk, fun d S' v H' e r hS' q1 => ?_⟩
    obtain ⟨i, rfl, q1⟩ := q1
    cases r
    refine ⟨i, rfl, ?_⟩
    cases i with
    | true => exact k _ _ _ _ e (.bl _) hS' q1
    | false => exact ⟨σD, S', QE, R, hs.ext e, hS', q1, tk, fun d S2 v H2 e2 => k d S2 v H2 (e.trans e2)⟩
theorem qw_and1 (ha : QT X a tA) : QW X (.BoolOp .And [a] pos) tA := pw_and1 ha
theorem qw_or1 (ha : QT X a tA) : QW X (.BoolOp .Or [a] pos) tA := pw_or1 ha
theorem qw_and (ha : QT X a tA) (hb : QW X (.BoolOp .And (b :: rest) pos) tB) : QW X (.BoolOp .And (a :: b :: rest) pos) (rAnd tA tB) :=
  PW.weak (pw_and ha hb) fun σ H Q h => by
    obtain ⟨σD, S, QE, R, hs, hS, q, tk, k⟩ := h
    refine ⟨σD, S, _, R, hs, hS, q, tk, fun i S' H' e hS' q1 => ?_⟩
    cases i with
    | true => exact ⟨σD, S', QE, R, hs.ext e, hS', q1, tk, fun d S2 H2 e2 => k d S2 H2 (e.trans e2)⟩
    | false => exact k _ _ _ e hS' q1
theorem qw_or (ha : QT X a tA) (hb : QW X (.BoolOp .Or (b :: rest) pos) tB) : QW X (.BoolOp .Or (a :: b :: rest) pos) (rOr tA tB) :=
  PW.weak (pw_or ha hb) fun σ H Q h => by
    obtain ⟨σD, S, QE, R, hs, hS, q, tk, k⟩ := h
    refine ⟨σD, S, _, R, hs, hS, q, tk, fun i S' H' e hS' q1 => ?_⟩
    cases i with
    | true => exact k _ _ _ e hS' q1
    | false => exact ⟨σD, S', QE, R, hs.ext e, hS', q1, tk, fun d S2 H2 e2 => k d S2 H2 (e.trans e2)⟩
theorem qw_pt (h : QW X a tA) : QT X a tA := PW.pt h
theorem qe_ifExp {c : Expr} (hc : QT X c tA) (ha : QE X a ta) (hb : QE X b tb) : QE X (.IfExp c a b pos) (rIf tA ta tb) :=
  PE.weak (pe_ifExp hc ha hb) fun σ H Q h => by
    obtain ⟨σD, S, QE, R, hs, hS, q, tk, k⟩ := h
    refine ⟨σD, S, _, R, hs, hS, q, tk, fun i S' H' e hS' q1 => ?_⟩
    cases i with
    | true => exact ⟨σD, S', QE, R, hs.ext e, hS', q1, tk, fun d S2 v H2 e2 => k d S2 v H2 (e.trans e2)⟩
    | false => exact ⟨σD, S', QE, R, hs.ext e, hS', q1, tk, fun d S2 v H2 e2 => k d S2 v H2 (e.trans e2)⟩
end

/-! ### argument lists, displays -/
def rNil : RA := fun _ S Q _ => Q [] S
def rCons (te : RE) (t : RA) : RA := fun σ S Q R => te σ S (fun x S1 => t σ S1 (fun xs S2 => Q (x :: xs) S2) R) R
def rTup (t : RA) : RE := fun σ S Q R => t σ S (fun xs S1 => xs.length ≤ sizeLine ∧ Q (.tup xs) S1) R
def rLst (t : RA) : RE := fun σ S Q R => t σ S (fun xs S1 => xs.length ≤ sizeLine ∧ ∀ p, S1 p = none → Q (.ref p) (put S1 p (.lst xs))) R
section
variable {X : Cx} {e : Expr} {es : List Expr} {te : RE} {t : RA} {pos : Pos}
theorem qa_nil : QA X [] rNil := PA.weak pa_nil fun σ H Q h => by
  obtain ⟨σD, S, QE, R, hs, hS, q, tk, k⟩ := h
  exact k _ _ _ _ Ext.refl .nil hS q
theorem qa_cons (ha : QE X e te) (hr : QA X es t) (hs : starEach (e :: es) X.env = (false, eval e X.env) :: starEach es X.env) : QA X (e :: es) (rCons te t) :=
  PA.weak (pa_cons ha hr hs) fun σ H Q h => by
    obtain ⟨σD, S, QE, R, hs, hS, q, tk, k⟩ := h
    refine ⟨σD, S, _, R, hs, hS, q, tk, fun d S' v H' e r hS' q1 => ?_⟩
    refine ⟨σD, S', _, R, hs.ext e, hS', q1, tk, fun ds S2 vs H2 e2 r2 hS2 q2 => ?_⟩
    exact k _ _ _ _ (e.trans e2) (.cons (r.ext e2) r2) hS2 q2
theorem qe_tup {x1 : Nat} (h : QA X es t) : QE X (.Tuple es x1 pos) (rTup t) :=
  PE.weak (pe_tup h) fun σ H Q h => by
    obtain ⟨σD, S, QE, R, hs, hS, q, tk, k⟩ := h
    refine ⟨σD, S, _, R, hs, hS, q, tk, fun ds S' vs H' e r hS' q1 => ⟨by rw [← r.length]; exact q1.1, fun p hp => ?_⟩⟩
    exact k _ _ _ _ (e.trans (Ext.new hp)) (.tup (SqT.of upd_same) (DRs.ext (Ext.new hp) r)) (hS'.new hp) q1.2
theorem qe_lst (h : QA X es t) : QE X (.List es pos) (rLst t) :=
  PE.weak (pe_lst h) fun σ H Q h => by
    obtain ⟨σD, S, QE, R, hs, hS, q, tk, k⟩ := h
    refine ⟨σD, S, _, R, hs, hS, q, tk, fun ds S' vs H' e r hS' q1 => ⟨by rw [← r.length]; exact q1.1, fun p hp => ?_⟩⟩
    exact k _ _ _ _ (e.trans (Ext.new hp)) (.ref p) (hS'.wr (.inr hp) r) (q1.2 p (hS'.fresh hp))
end

/-! ### subscripts, slices -/
def atD (xs : List Dt) (i : Int) : Option Dt := (ixN xs.length i).bind fun j => xs[j]?
def ixD : Dt → Dt → Sto → QD → Prop
  | .tup xs, .int i, S, Q => ∃ d, atD xs i = some d ∧ Q d S
  | .ref a, .int i, S, Q => ∃ xs d, lstOf S a = some xs ∧ atD xs i = some d ∧ Q d S
  | _, _, _, _ => False
theorem atD_ok {K : PySem.W.Frag} {H : Hp} {ds : List Dt} {vs : List V} {i : Int} {d : Dt} (r : DRs K H ds vs) (h : atD ds i = some d) : ∃ v, atI vs i = some v ∧ DR K H d v := by
  unfold atD at h
  unfold atI
  rw [← r.length]
  cases e : ixN ds.length i with
  | none => rw [e] at h; cases h
  | some j =>
    rw [e] at h
    exact r.get (by simpa using h)
def cutD (xs : List Dt) (lo hi : Option Int) : List Dt := (xs.drop (HT.sIx xs.length 0 lo)).take (HT.sIx xs.length xs.length hi - HT.sIx xs.length 0 lo)
theorem cutD_ok {K : PySem.W.Frag} {H : Hp} {ds : List Dt} {vs : List V} {lo hi : Option Int} (r : DRs K H ds vs) : DRs K H (cutD ds lo hi) (cutV vs lo hi) := by
  unfold cutD cutV
  rw [r.length]
  exact (r.drop _).take _
abbrev RO := Slo → Sto → (Option Int → Sto → Prop) → XQ → Prop
def liftO (X : Cx) (t : RO) : TO := fun σ H Q => ∃ σD S QE R, SloR X.K H σD σ ∧ StoR X.K H S ∧ t σD S QE R ∧ TakesD X R ∧ ∀ b S' H', Ext H H' → StoR X.K H' S' → QE b S' → Q b H'
def QO (X : Cx) (e : Option Expr) (t : RO) : Prop := PO X e (liftO X t)
def rNone : RO := fun _ S Q _ => Q none S
def rSome (te : RE) : RO := fun σ S Q R => te σ S (fun x S1 => ∃ i, x = .int i ∧ Q (some i) S1) R
def slD : Dt → Option Int → Option Int → Sto → QD → Prop
  | .tup xs, lo, hi, S, Q => Q (.tup (cutD xs lo hi)) S
  | .ref a, lo, hi, S, Q => ∃ xs, lstOf S a = some xs ∧ ∀ p, S p = none → Q (.ref p) (put S p (.lst (cutD xs lo hi)))
  | .frl xs, lo, hi, S, Q => ∀ p, S p = none → Q (.ref p) (put S p (.lst (cutD xs lo hi)))
  | _, _, _, _, _ => False
def rSl (te : RE) (tl th : RO) : RE := fun σ S Q R => te σ S (fun x S1 => tl σ S1 (fun l S2 => th σ S2 (fun u S3 => slD x l u S3 Q) R) R) R
theorem cut_whole {vs : List V} {lo hi : Option Int} (h : HT.sIx vs.length 0 lo = 0 ∧ HT.sIx vs.length vs.length hi = vs.length) : cutV vs lo hi = vs := by
  unfold cutV
  rw [h.1, h.2]
  simp
section
variable {X : Cx} {a b : Expr} {ta tb : RE} {pos : Pos} {tl th : RO} {lo hi : Option Expr} {p2 : Pos}
theorem fit_ix : FitR X ixD (rIx X.K) := by
  intro x y S QE v u H Q rx ry hS h k
  cases rx <;> cases ry <;> first | exact False.elim h | skip
  case ref.int a i =>
    obtain ⟨xs, d, e1, e2, q⟩ := h
    obtain ⟨vs, hq, r⟩ := lstOf_ok hS e1
    obtain ⟨v, h1, r1⟩ := atD_ok r e2
    exact .inl ⟨a, vs, i, v, rfl, rfl, hq, h1, k _ _ _ _ Ext.refl r1 hS q⟩
  case tup.int ds vs a hq r i =>
    obtain ⟨d, e2, q⟩ := h
    obtain ⟨v, h1, r1⟩ := atD_ok r e2
    exact .inr (.inl ⟨a, vs, i, v, rfl, rfl, hq, h1, k _ _ _ _ Ext.refl r1 hS q⟩)
theorem qe_ix (ha : QE X a ta) (hb : QE X b tb) (hs : PlainIx b) : QE X (.Subscript a b pos) (rBin ixD ta tb) := PE.weak (pe_ix ix_seq ha hb hs) fun σ H Q h => lift_bin fit_ix h
theorem qo_none : QO X none rNone := ⟨fun pins s σ H Q I h => by
  obtain ⟨σD, S, QE, R, hs, hS, q, tk, k⟩ := h
  exact po_none.run pins s σ H Q I (k _ _ _ Ext.refl hS q)⟩
theorem qo_some (h : QE X a ta) : QO X (some a) (rSome ta) := ⟨fun pins s σ H Q I q => (po_some h).run pins s σ H Q I (by
  obtain ⟨σD, S, QE, R, hs, hS, q, tk, k⟩ := q
  refine ⟨σD, S, _, R, hs, hS, q, tk, fun d S' v H' e r hS' q1 => ?_⟩
  obtain ⟨i, rfl, q1⟩ := q1
  cases r
  exact ⟨i, rfl, k _ _ _ e hS' q1⟩)⟩
theorem qe_sl (ha : QE X a ta) (hl : QO X lo tl) (hu : QO X hi th) : QE X (.Subscript a (.Slice lo hi none p2) pos) (rSl ta tl th) :=
  PE.weak (pe_slice (sl_list.or sl_tupA) ha hl hu) fun σ H Q h => by
    obtain ⟨σD, S, QE, R, hs, hS, q, tk, k⟩ := h
    refine ⟨σD, S, _, R, hs, hS, q, tk, fun d S1 v H1 e1 r hS1 q1 => ?_⟩
    refine ⟨σD, S1, _, R, hs.ext e1, hS1, q1, tk, fun l S2 H2 e2 hS2 q2 => ?_⟩
    refine ⟨σD, S2, _, R, (hs.ext e1).ext e2, hS2, q2, tk, fun u S3 H3 e3 hS3 q3 => ?_⟩
    have e := e1.trans (e2.trans e3)
    have r3 := r.ext (e2.trans e3)
    cases r3 <;> first | exact False.elim q3 | skip
    case ref a =>
      obtain ⟨xs, e4, q4⟩ := q3
      obtain ⟨vs, hq, r⟩ := lstOf_ok hS3 e4
      exact .inl ⟨a, vs, rfl, hq, fun p hp => k _ _ _ _ (e.trans (Ext.new hp)) (.ref p) (hS3.wr (.inr hp) (cutD_ok r)) (q4 p (hS3.fresh hp))⟩
    case tup ds vs a hq r' =>
      refine .inr ⟨a, vs, rfl, hq, fun hw => ?_, fun hw p hp => ?_⟩
      · have z := cutD_ok (lo := l) (hi := u) r'
        rw [cut_whole hw] at z
        exact k _ _ _ _ e (.tup hq z) hS3 q3
      · exact k _ _ _ _ (e.trans (Ext.new hp)) (.tup (SqT.of upd_same) (DRs.ext (Ext.new hp) (cutD_ok r'))) (hS3.new hp) q3
    case frl ds vs a hq r' =>
      exact .inl ⟨a, vs, rfl, hq.sq, fun p hp => k _ _ _ _ (e.trans (Ext.new hp)) (.ref p) (hS3.wr (.inr hp) (cutD_ok r')) (q3 p (hS3.fresh hp))⟩
end
end Ev

namespace PySem
open Sem (wp)
theorem ev_meets_enumerate {v : Value} {o : Obj} {H : Heap → Prop} (B : Begins v o H) :
    Meets (Builtin.«enumerate.__new__» ⟨[.type "enumerate", v], []⟩) (fun _ R s => H s.heap ∧
      R (.ok (.ret (.ref (s.heap.push o).objs.size))) { s with heap := (s.heap.push o).push { cls := .type "enumerate", data := .fields #[.none, .bool false, .ref s.heap.objs.size, rawInt 0, .none, .none] } }) :=
  .of_wp fun prog w A R s h => by
    obtain ⟨hp, g, d, tk, os⟩ := s; obtain ⟨h1, h⟩ := h
    have hsub := sub_enumerate
    have q1 : ∀ {A' : Around} {E : Value → Shared → Prop} {Q : Value → Shared → Prop}, Q (.ref hp.objs.size) ⟨hp.push o, g, d, tk, os⟩ → wpAny (model prog w) A' (pyIter v) Q E ⟨hp, g, d, tk, os⟩ :=
      fun q => B.iter prog w _ _ ⟨hp, g, d, tk, os⟩ _ h1 q
    wp_walk using q1
    refine wpAny_stack_any fun st => wpAny_pure ?_
    split
    · rename_i c _ _ _ _ _
      cases (c == Value.type "enumerate")
      · wp_walk using q1
        exact ⟨_, rfl, h⟩
      · wp_walk using q1
        exact ⟨_, rfl, h⟩
    · wp_walk using q1
      exact ⟨_, rfl, h⟩
section
variable {prog : Program} {w : World} {A : Around} {E : Value → Shared → Prop} {s : Shared}
theorem ev_enum_begins {v : Value} {o : Obj} {H : Heap → Prop} {Q : Value → Shared → Prop} (B : Begins v o H) (h1 : H s.heap)
    (h : ∀ h', IsEnum h' (s.heap.objs.size + 1) s.heap.objs.size 0 .none → h'.get? s.heap.objs.size = some o → h'.objs.size = s.heap.objs.size + 2 →
      (∀ b o, s.heap.get? b = some o → h'.get? b = some o) → Q (.ref (s.heap.objs.size + 1)) { s with heap := h' }) :
    wpAny (model prog w) A (call (.type "enumerate") [v]) Q E s := by
  refine callType_new F.called_enumerate (by decide) (F.typeCall_enumerate_1 _) (F.newCall_enumerate_1 _) (fun obj => F.args_object_init_2 obj _) F.entry_enumerate_new
    (ev_meets_enumerate B) ⟨h1, ?_⟩
  have hz : (s.heap.push o).objs.size = s.heap.objs.size + 1 := Heap.size_push ..
  show _ ∧ _
  rw [hz]
  have he : IsEnum ((s.heap.push o).push { cls := .type "enumerate", data := .fields #[.none, .bool false, .ref s.heap.objs.size, rawInt 0, .none, .none] }) (s.heap.objs.size + 1) s.heap.objs.size 0 .none := by
    have := Heap.get?_push_size (s.heap.push o) (o := { cls := .type "enumerate", data := .fields #[.none, .bool false, .ref s.heap.objs.size, rawInt 0, .none, .none] }) rfl
    rw [hz] at this; exact this
  refine ⟨⟨_, he, rfl⟩, h _ he (Heap.get?_push_of_some _ (Heap.get?_push_size _ B.free)) (by rw [Heap.size_push, hz]) fun b o x => Heap.get?_push_of_some _ (Heap.get?_push_of_some _ x)⟩
end
end PySem
namespace Ev
open PySem PySem.Spec PyProof.Rows L2
/-! ### enumerate(tuple) -/
def IteT (K : PySem.W.Frag) (a : Addr) : It :=
  ⟨fun i H => ∃ (xs : List V) (x : V), SqT K H a xs ∧ xs[i]? = some x, fun i H v H' => ∃ T x, v = .ref T ∧ H T = none ∧ H' = upd H T (.tup [.int (i : Nat), x]) ∧ ∀ xs, SqT K H a xs → xs[i]? = some x, fun i H => ∃ xs : List V, SqT K H a xs ∧ xs.length = i⟩
theorem turn_enumT {P : Program} {w : World} {K : PySem.W.Frag} {elts : List Expr} {kk : Nat} {tpos : Pos} (a e it : Addr) :
    Turn P w K (.Tuple elts kk tpos) (IteT K a) [e, it] e (fun i h => (∃ old, IsEnum h e it ((i : Nat) : Int) old) ∧ h.IsTupleIter it a i ∧ e ≠ it ∧ a ≠ it ∧ a ≠ e) where
  mem := by simp
  obj := fun i h st b hb => by
    obtain ⟨⟨old, he⟩, ⟨o, ho, hc, hd⟩, _⟩ := st
    have e' : b = e ∨ b = it := by simpa using hb
    rcases e' with z | z
    · rw [z]; exact ⟨_, he, fun v q => nomatch q⟩
    · rw [z]; exact ⟨o, ho, fun v q => by rw [hd] at q; cases q⟩
  keep := fun i h h' st k => let ⟨⟨old, he⟩, hi, hne⟩ := st; ⟨⟨old, k e (by simp) _ he⟩, hi.at fun o q => k it (by simp) o q, hne⟩
  item := by
    intro X hP hw hK hc i pins s σ H E I hf st hg
    subst hP hw hK
    obtain ⟨⟨old, he⟩, hit, hne, hai, hae⟩ := st
    obtain ⟨xs, x, hq, hx⟩ := hg
    obtain ⟨its, rv, p, hz⟩ := I.tuple hq
    obtain ⟨u, hu, ru⟩ := rv.get hx
    have hel : e < s.heap.objs.size := Heap.lt_size he
    have hil : it < s.heap.objs.size := by obtain ⟨_, q, _⟩ := hit; exact Heap.lt_size q
    have hlt : i < its.toArray.size := by
      rw [List.size_toArray]
      exact (List.getElem?_eq_some_iff.mp hu).1
    have D := Draws.tuple (prog := X.prog) (w := X.w) (A := X.A.in1) (I.ok.hd hc) it a hai its.toArray
    refine wpAny_pyNext_enum_itemD D he ⟨hit, p⟩ hlt hne (by simp; exact ⟨hne, fun z => hae z.symm⟩) fun y h' tk hy ho hit' hT hsz hk => ?_
    have hy' : y = u := by
      have z1 : its.toArray[i]? = some y := hy
      have z2 : its.toArray[i]? = some u := by simpa using hu
      rw [z1] at z2
      exact Option.some.inj z2
    subst hy'
    refine ⟨_, rfl, wpAny_letOwnedTupleGo_enum (s := { s with heap := h', toks := tk + 1 }) ho fun h'' he' sb => ?_⟩
    have hT2 : h''.get? s.heap.objs.size = some { cls := .type "tuple", data := .seq #[.int i tk, y] } := (sb.2 _ (Nat.ne_of_gt hel)).trans hT
    have new : ObjOk X.prog X.w (upd H s.heap.objs.size (.tup [.int (i : Nat), x])) h'' s.heap.objs.size (.tup [.int (i : Nat), x]) :=
      ⟨by show 2 ≤ sizeLine; decide, [.int i tk, y], .cons ⟨_, rfl⟩ (.cons ru .nil), ⟨_, hT2, rfl, _, rfl⟩⟩
    have I1 : Inv X pins σ (upd H s.heap.objs.size (.tup [.int (i : Nat), x])) { s with heap := h'', toks := tk + 1 } :=
      I.turnedNew (ch := [e, it]) (fun b ob hb q => (sb.2 b (fun z => hb (by simp [z]))).trans (hk b ob (fun z => hb (by simp [z])) (fun z => hb (by simp [z])) q)) hf (Nat.le_refl _) new
    refine ⟨.ref s.heap.objs.size, _, I1, rfl, ⟨_, x, rfl, I.hok.fresh (Nat.le_refl _), rfl, fun ys hy => by rw [I.tuple_inj hy hq]; exact hx⟩, ⟨⟨y, ?_⟩, hit'.1.at fun o q => (sb.2 it (Ne.symm hne)).trans q, hne, hai, hae⟩, fun b hb => ?_⟩
    · have e1 : ((i + 1 : Nat) : Int) = (i : Int) + 1 := by omega
      rw [e1]; exact he'
    · have hb' : b < s.heap.objs.size := by
        have e' : b = e ∨ b = it := by simpa using hb
        rcases e' with z | z
        · rw [z]; exact hel
        · rw [z]; exact hil
      rw [upd_ne (Nat.ne_of_lt hb')]
      exact (hf b hb).1
  done := by
    intro X hP hw hK hc i pins s σ H E I hf st hg
    subst hP hw hK
    obtain ⟨⟨old, he⟩, hit, hne, hai, hae⟩ := st
    obtain ⟨xs, hq, hx⟩ := hg
    obtain ⟨its, rv, p, hz⟩ := I.tuple hq
    obtain ⟨f0, f1, f2, f3, f4, f5⟩ := hf it (by simp)
    have hl := rv.length
    have D := Draws.tuple (prog := X.prog) (w := X.w) (A := X.A.in1) (I.ok.hd hc) it a hai its.toArray
    have hsz : i = its.toArray.size := by simp; omega
    subst hsz
    exact wpAny_pyNext_enum_endD D he ⟨hit, p⟩ fun h' eb => ⟨rfl, I.turned (t' := s.toks) (fun b o hb q => eb b o hb q) f0 f1 f3 f4 f5⟩
  self := fun A i s Q E st h => let ⟨⟨_, he⟩, _⟩ := st; wpAny_pyIter_enum he h
end Ev

namespace Ev
open PySem PySem.Spec PyProof.Rows L2
def iEnumA (K : PySem.W.Frag) (ta : TA) : TI := fun σ H R => ta σ H fun vs H1 => ∃ a xs, vs = [.ref a] ∧ ((SqL K H1 a xs ∧ R (Ite K a) H1) ∨ (SqT K H1 a xs ∧ R (IteT K a) H1))
theorem pi_enumA {X : Cx} {e : Expr} {ta : TA} {p pos tpos : Pos} {elts : List Expr} {kk : Nat} (hg : Gl X "enumerate") (hm : X.mg "enumerate" = none) (ha : PA X [e] ta) (hs : starEach [e] X.env = [(false, eval e X.env)] := by rfl) :
    PI X (.Tuple elts kk tpos) (.Call (.Name "enumerate" p) [e] [] pos) (iEnumA X.K ta) := by
  refine ⟨fun pins s σ H R I h => ?_⟩
  refine Call_ (ld_blt I hg hm boot_enumerate (PyProof.Rows.callWith_type1 (thn (ha.run pos pins s σ H _ I h) fun us s1 ⟨vs, H1, I1, r1, q1⟩ => ?_) hs rfl))
  obtain ⟨a, xs, ex, q1⟩ := q1
  subst ex
  have fp : ∀ {b : Addr}, b ∈ [s1.heap.objs.size + 1, s1.heap.objs.size] → FpOk X pins H1 b := fun {b} hb => by
    have e' : b = s1.heap.objs.size + 1 ∨ b = s1.heap.objs.size := by simpa using hb
    have hle : s1.heap.objs.size ≤ b := by
      rcases e' with z | z
      · rw [z]; exact Nat.le_add_right _ _
      · rw [z]; exact Nat.le_refl _
    exact I1.fpOk hle (I1.hok.fresh hle)
  cases r1 with
  | cons r rr =>
    cases rr
    cases r
    rcases q1 with ⟨hq, q⟩ | ⟨hq, q⟩
    · obtain ⟨its, rv, p', hz⟩ := I1.list hq
      refine call_enumerate_list p'.isList fun h' he hit hsz hk => wpAny_pyIter_enum he ?_
      have I2 : Inv X pins σ H1 { s1 with heap := h' } := I1.kept (t' := s1.toks) hk
      exact ⟨s1.heap.objs.size + 1, [s1.heap.objs.size + 1, s1.heap.objs.size], _, _, H1, rfl, I2, turn_enum a (s1.heap.objs.size + 1) s1.heap.objs.size, ⟨⟨.none, he⟩, hit, Nat.succ_ne_self _⟩, fun b hb => fp hb, q⟩
    · obtain ⟨its, rv, p', hz⟩ := I1.tuple hq
      have hal : a < s1.heap.objs.size := p'.lt
      refine ev_enum_begins (begins_tuple a its.toArray) p' fun h' he hit hsz hk => wpAny_pyIter_enum he ?_
      have I2 : Inv X pins σ H1 { s1 with heap := h' } := I1.kept (t' := s1.toks) hk
      exact ⟨s1.heap.objs.size + 1, [s1.heap.objs.size + 1, s1.heap.objs.size], _, _, H1, rfl, I2, turn_enumT a (s1.heap.objs.size + 1) s1.heap.objs.size,
        ⟨⟨.none, he⟩, ⟨_, hit, rfl, rfl⟩, Nat.succ_ne_self _, Nat.ne_of_lt hal, Nat.ne_of_lt (Nat.lt_succ_of_lt hal)⟩, fun b hb => fp hb, q⟩

/-! ### what is walked -/
/-- J walks the items while G stands (from the heap H0 on) -/
structure WalkD (K : PySem.W.Frag) (H0 : Hp) (J : It) (items : List Dt) (G : Sto → Prop) : Prop where
  goes : ∀ i H S, i < items.length → Ext H0 H → StoR K H S → G S → J.go i H
  stops : ∀ H S, Ext H0 H → StoR K H S → G S → J.stop items.length H
  yields : ∀ i H S v H', i < items.length → Ext H0 H → StoR K H S → G S → J.yld i H v H' → ∃ d, items[i]? = some d ∧ Ext H H' ∧ StoR K H' S ∧ DR K H' d v
abbrev RI := Slo → Sto → (List Dt → (Sto → Prop) → Sto → Prop) → XQ → Prop
def liftI (X : Cx) (wi : RI) : TI := fun σ H R => ∃ σD S RD RX, SloR X.K H σD σ ∧ StoR X.K H S ∧ wi σD S RD RX ∧ TakesD X RX ∧
  ∀ items G S' H' J, Ext H H' → StoR X.K H' S' → WalkD X.K H' J items G → RD items G S' → R J H'
def QI (X : Cx) (tg iter : Expr) (wi : RI) : Prop := PI X tg iter (liftI X wi)
theorem PI.weak {X : Cx} {tg iter : Expr} {t t' : TI} (h : PI X tg iter t) (w : ∀ σ H Q, t' σ H Q → t σ H Q) : PI X tg iter t' := ⟨fun pins s σ H Q I q => h.run pins s σ H Q I (w σ H Q q)⟩
section
variable {K : PySem.W.Frag} {H H0 : Hp} {S : Sto} {a : Addr}
/-- the list a stands as it is -/
def StL (a : Addr) (ds : List Dt) : Sto → Prop := fun S => lstOf S a = some ds
theorem SqL_det {xs ys : List V} {H : Hp} (h : H a = some (.lst xs) ∨ ∃ o, H a = some (.frz o (.lst xs))) (h2 : SqL K H a ys) (hx : ∀ o, K.lookup a = some o → H a = none) : xs = ys := by
  rcases h2 with (h2 | ⟨o, h2⟩) | ⟨o, its, n, hk, _⟩
  · rcases h with h | ⟨o, h⟩
    · rw [h] at h2; cases h2; rfl
    · rw [h] at h2; cases h2
  · rcases h with h | ⟨o', h⟩
    · rw [h] at h2; cases h2
    · rw [h] at h2; cases h2; rfl
  · have := hx o hk
    rcases h with h | ⟨o', h⟩ <;> (rw [this] at h; cases h)
theorem lstOf_rd {S : Sto} {a : Addr} {ds : List Dt} (hS : StoR K H S) (h : lstOf S a = some ds) : ∃ vs, (H a = some (.lst vs) ∨ ∃ o, H a = some (.frz o (.lst vs))) ∧ DRs K H ds vs := by
  unfold lstOf at h
  split at h
  · rename_i xs e
    obtain ⟨vs, e1, r⟩ := hS a _ e
    cases h
    exact ⟨vs, .inl e1, r⟩
  · rename_i xs e
    obtain ⟨vs, o, e1, r⟩ := hS a _ e
    cases h
    exact ⟨vs, .inr ⟨o, e1⟩, r⟩
  · cases h
theorem rd_sq {vs : List V} (h : H a = some (.lst vs) ∨ ∃ o, H a = some (.frz o (.lst vs))) : SqL K H a vs := h.elim (fun h => .inl (.inl h)) (fun ⟨o, h⟩ => .inl (.inr ⟨o, h⟩))
theorem walkD_list {ds : List Dt} (ha : lstOf S a = some ds) : WalkD K H0 (Itl K a) ds (StL a ds) where
  goes := fun i H S hi _ hS g => by
    obtain ⟨vs, h1, r⟩ := lstOf_rd hS g
    exact ⟨vs, vs[i]'(by rw [← r.length]; exact hi), rd_sq h1, by simp [← r.length, hi]⟩
  stops := fun H S _ hS g => by
    obtain ⟨vs, h1, r⟩ := lstOf_rd hS g
    exact ⟨vs, rd_sq h1, by rw [r.length]; exact Nat.le_refl _⟩
  yields := fun i H S v H' hi _ hS g y => by
    obtain ⟨vs, h1, r⟩ := lstOf_rd hS g
    obtain ⟨e, y⟩ := y
    subst e
    have y1 := y vs (rd_sq h1)
    obtain ⟨v2, h2, r2⟩ := r.get (i := i) (d := ds[i]) (by simp [hi])
    rw [y1] at h2; cases h2
    exact ⟨ds[i], by simp [hi], Ext.refl, hS, r2⟩
theorem walkD_tup {ds : List Dt} {vs : List V} (hq : SqT K H0 a vs) (r : DRs K H0 ds vs) : WalkD K H0 (Itt K a) ds (fun _ => True) where
  goes := fun i H S hi e _ _ => ⟨vs, vs[i]'(by rw [← r.length]; exact hi), SqT.ext hq e, by simp [← r.length, hi]⟩
  stops := fun H S e _ _ => ⟨vs, SqT.ext hq e, by rw [r.length]; exact Nat.le_refl _⟩
  yields := fun i H S v H' hi e hS _ y => by
    obtain ⟨e1, y⟩ := y
    subst e1
    have y1 := y vs (SqT.ext hq e)
    obtain ⟨v2, h2, r2⟩ := r.get (i := i) (d := ds[i]) (by simp [hi])
    rw [y1] at h2; cases h2
    exact ⟨ds[i], by simp [hi], Ext.refl, hS, r2.ext e⟩
theorem walkD_range {lo : Int} {n : Nat} : WalkD K H0 (Itr lo n) ((List.range n).map fun i : Nat => Dt.int (lo + i)) (fun _ => True) where
  goes := fun i H S hi _ _ _ => by
    have hi' : i < n := by simpa using hi
    exact hi'
  stops := fun H S _ _ _ => by simp [Itr]
  yields := fun i H S v H' hi e hS _ y => by
    obtain ⟨e1, y⟩ := y
    subst e1; subst y
    have hi' : i < n := by simpa using hi
    exact ⟨.int (lo + i), by simp [hi'], Ext.refl, hS, .int _⟩
/-- a row with its places -/
def enumD : Nat → List Dt → List Dt
  | _, [] => []
  | k, d :: ds => .tup [.int (k : Nat), d] :: enumD (k + 1) ds
theorem enumD_len : ∀ (k : Nat) (ds : List Dt), (enumD k ds).length = ds.length
  | _, [] => rfl
  | k, _ :: ds => by simp [enumD, enumD_len (k + 1) ds]
theorem enumD_get : ∀ (k : Nat) (ds : List Dt) (i : Nat) (d : Dt), ds[i]? = some d → (enumD k ds)[i]? = some (.tup [.int ((k + i : Nat) : Int), d])
  | _, [], _, _, h => by simp at h
  | k, x :: ds, 0, d, h => by simp at h; subst h; simp [enumD]
  | k, x :: ds, i + 1, d, h => by
    have := enumD_get (k + 1) ds i d (by simpa using h)
    have e : k + 1 + i = k + (i + 1) := by omega
    simp only [enumD, List.getElem?_cons_succ]
    rw [this, e]
theorem new_pair {T : Addr} {d : Dt} {v : V} {i : Nat} (hT : H T = none) (r : DR K H d v) : DR K (upd H T (.tup [.int (i : Nat), v])) (.tup [.int (i : Nat), d]) (.ref T) :=
  .tup (SqT.of upd_same) (.cons (.int _) (.cons (r.ext (Ext.new hT)) .nil))
theorem walkD_enumL {ds : List Dt} : WalkD K H0 (Ite K a) (enumD 0 ds) (StL a ds) where
  goes := fun i H S hi _ hS g => by
    obtain ⟨vs, h1, r⟩ := lstOf_rd hS g
    rw [enumD_len] at hi
    exact ⟨vs, vs[i]'(by rw [← r.length]; exact hi), rd_sq h1, by simp [← r.length, hi]⟩
  stops := fun H S _ hS g => by
    obtain ⟨vs, h1, r⟩ := lstOf_rd hS g
    exact ⟨vs, rd_sq h1, by rw [enumD_len, r.length]; exact Nat.le_refl _⟩
  yields := fun i H S v H' hi _ hS g y => by
    obtain ⟨vs, h1, r⟩ := lstOf_rd hS g
    rw [enumD_len] at hi
    obtain ⟨T, x, e, hT, e2, y⟩ := y
    subst e; subst e2
    have y1 := y vs (rd_sq h1)
    obtain ⟨v2, h2, r2⟩ := r.get (i := i) (d := ds[i]) (by simp [hi])
    rw [y1] at h2; cases h2
    refine ⟨_, enumD_get 0 ds i ds[i] (by simp [hi]), Ext.new hT, hS.new hT, ?_⟩
    rw [Nat.zero_add]
    exact new_pair hT r2
theorem walkD_enumT {ds : List Dt} {vs : List V} (hq : SqT K H0 a vs) (r : DRs K H0 ds vs) : WalkD K H0 (IteT K a) (enumD 0 ds) (fun _ => True) where
  goes := fun i H S hi e _ _ => by
    rw [enumD_len] at hi
    exact ⟨vs, vs[i]'(by rw [← r.length]; exact hi), SqT.ext hq e, by simp [← r.length, hi]⟩
  stops := fun H S e _ _ => ⟨vs, SqT.ext hq e, by rw [enumD_len, r.length]⟩
  yields := fun i H S v H' hi e hS _ y => by
    rw [enumD_len] at hi
    obtain ⟨T, x, e1, hT, e2, y⟩ := y
    subst e1; subst e2
    have y1 := y vs (SqT.ext hq e)
    obtain ⟨v2, h2, r2⟩ := r.get (i := i) (d := ds[i]) (by simp [hi])
    rw [y1] at h2; cases h2
    refine ⟨_, enumD_get 0 ds i ds[i] (by simp [hi]), Ext.new hT, hS.new hT, ?_⟩
    rw [Nat.zero_add]
    exact new_pair hT (r2.ext e)
theorem rev_get {α : Type} (l : List α) (i : Nat) (h : i < l.length) : l.reverse[i]? = l[l.length - 1 - i]? := by
  rw [List.getElem?_reverse h]
theorem walkD_revL {ds : List Dt} : WalkD K H0 (Itv K a ds.length) ds.reverse (StL a ds) where
  goes := fun i H S hi _ hS g => by
    obtain ⟨vs, h1, r⟩ := lstOf_rd hS g
    rw [List.length_reverse] at hi
    have l := r.length
    exact ⟨hi, vs, vs[ds.length - 1 - i]'(by omega), rd_sq h1, by simp [show ds.length - 1 - i < vs.length by omega]⟩
  stops := fun H S _ hS g => by show ds.length ≤ _; rw [List.length_reverse]; exact Nat.le_refl _
  yields := fun i H S v H' hi _ hS g y => by
    obtain ⟨vs, h1, r⟩ := lstOf_rd hS g
    rw [List.length_reverse] at hi
    obtain ⟨e, y⟩ := y
    subst e
    have y1 := y vs (rd_sq h1)
    have hj : ds.length - 1 - i < ds.length := by omega
    obtain ⟨v2, h2, r2⟩ := r.get (i := ds.length - 1 - i) (d := ds[ds.length - 1 - i]) (by simp [hj])
    rw [y1] at h2; cases h2
    exact ⟨ds[ds.length - 1 - i], by rw [rev_get _ _ hi]; simp [hj], Ext.refl, hS, r2⟩
theorem walkD_revT {ds : List Dt} {vs : List V} (hq : SqT K H0 a vs) (r : DRs K H0 ds vs) : WalkD K H0 (_root_.RT.ItvT K a vs.length) ds.reverse (fun _ => True) where
  goes := fun i H S hi e _ _ => by
    rw [List.length_reverse] at hi
    have l := r.length
    exact ⟨by omega, vs, vs[vs.length - 1 - i]'(by omega), SqT.ext hq e, by simp [show vs.length - 1 - i < vs.length by omega]⟩
  stops := fun H S e _ _ => by show vs.length ≤ _; rw [List.length_reverse, r.length]; exact Nat.le_refl _
  yields := fun i H S v H' hi e hS _ y => by
    rw [List.length_reverse] at hi
    obtain ⟨e1, y⟩ := y
    subst e1
    have y1 := y vs (SqT.ext hq e)
    have l := r.length
    have hj : ds.length - 1 - i < ds.length := by omega
    obtain ⟨v2, h2, r2⟩ := r.get (i := ds.length - 1 - i) (d := ds[ds.length - 1 - i]) (by simp [hj])
    rw [l, y1] at h2; cases h2
    exact ⟨ds[ds.length - 1 - i], by rw [rev_get _ _ hi]; simp [hj], Ext.refl, hS, r2.ext e⟩
end
/-! ### the walks' readings -/
/-- a list or a tuple itself -/
def seqW : Dt → Sto → (List Dt → (Sto → Prop) → Sto → Prop) → Prop
  | .tup ds, S, R => R ds (fun _ => True) S
  | .ref a, S, R => ∃ ds, lstOf S a = some ds ∧ R ds (StL a ds) S
  | _, _, _ => False
def enumW : Dt → Sto → (List Dt → (Sto → Prop) → Sto → Prop) → Prop
  | .tup ds, S, R => R (enumD 0 ds) (fun _ => True) S
  | .ref a, S, R => ∃ ds, lstOf S a = some ds ∧ R (enumD 0 ds) (StL a ds) S
  | _, _, _ => False
def revW : Dt → Sto → (List Dt → (Sto → Prop) → Sto → Prop) → Prop
  | .tup ds, S, R => R ds.reverse (fun _ => True) S
  | .ref a, S, R => ∃ ds, lstOf S a = some ds ∧ R ds.reverse (StL a ds) S
  | _, _, _ => False
def rngD (lo hi : Int) : List Dt := (List.range (hi - lo).toNat).map fun i : Nat => Dt.int (lo + i)
def smallI (j : Int) : Prop := -(2 ^ 62) ≤ j ∧ j < 2 ^ 62
def rngW1 : List Dt → Sto → (List Dt → (Sto → Prop) → Sto → Prop) → Prop
  | [.int j], S, R => smallI j ∧ R (rngD 0 j) (fun _ => True) S
  | _, _, _ => False
def rngW2 : List Dt → Sto → (List Dt → (Sto → Prop) → Sto → Prop) → Prop
  | [.int i, .int j], S, R => (smallI i ∧ smallI j) ∧ R (rngD i j) (fun _ => True) S
  | _, _, _ => False
def wSeq (te : RE) : RI := fun σ S R RX => te σ S (fun x S1 => seqW x S1 R) RX
def wEnum (te : RE) : RI := fun σ S R RX => te σ S (fun x S1 => enumW x S1 R) RX
def wRev (te : RE) : RI := fun σ S R RX => te σ S (fun x S1 => revW x S1 R) RX
def wRng1 (ta : RA) : RI := fun σ S R RX => ta σ S (fun xs S1 => rngW1 xs S1 R) RX
def wRng2 (ta : RA) : RI := fun σ S R RX => ta σ S (fun xs S1 => rngW2 xs S1 R) RX
section
variable {X : Cx} {tg e : Expr} {te : RE} {p pos tpos : Pos} {elts : List Expr} {kk : Nat}
theorem PI.orr {X : Cx} {tg e : Expr} {t t' : TI} (h : PI X tg e t) (h' : PI X tg e t') : PI X tg e (fun σ H R => t σ H R ∨ t' σ H R) :=
  ⟨fun pins s σ H R I q => q.elim (fun q => h.run pins s σ H R I q) (fun q => h'.run pins s σ H R I q)⟩
def iSeq (K : PySem.W.Frag) (te : TE) : TI := fun σ H R => te σ H fun x H1 => ∃ a, x = .ref a ∧ (((∃ xs, SqL K H1 a xs) ∧ R (Itl K a) H1) ∨ ((∃ xs, SqT K H1 a xs) ∧ R (Itt K a) H1))
theorem pi_seq {l : Expr} {tl : TE} (hl : PE X l tl) : PI X tg l (iSeq X.K tl) := by
  refine ⟨fun pins s σ H R I h => ?_⟩
  refine thn (hl.run pins s σ H _ I h) fun v s1 ⟨x, H1, I1, r1, q1⟩ => ?_
  obtain ⟨a, e, q⟩ := q1
  subst e
  have hp : PE X (.Constant .none 0 ⟨0, 0, 0, 0⟩) (tC .non) := pe_non
  cases r1
  rcases q with ⟨⟨xs, hq⟩, q⟩ | ⟨⟨xs, hq⟩, q⟩
  · obtain ⟨its, rv, p, hz⟩ := I1.list hq
    refine wpAny_pyIter_list p.isList ?_
    refine ⟨s1.heap.objs.size, [s1.heap.objs.size], _, _, H1, rfl, I1.kept (t' := s1.toks) fun b o e => Heap.get?_push_of_some _ e, turn_list a _, ⟨_, Heap.get?_push_size _ rfl, rfl, rfl⟩, fun b hb => ?_, q⟩
    have e : b = s1.heap.objs.size := by simpa using hb
    subst e
    exact I1.fpOk (Nat.le_refl _) (I1.hok.fresh (Nat.le_refl _))
  · obtain ⟨its, rv, p, hz⟩ := I1.tuple hq
    refine wpAny_pyIter_tuple (show s1.heap.IsTuple a its.toArray from p) ?_
    refine ⟨s1.heap.objs.size, [s1.heap.objs.size], _, _, H1, rfl, I1.kept (t' := s1.toks) fun b o e => Heap.get?_push_of_some _ e, turn_tuple a _, ⟨_, Heap.get?_push_size _ rfl, rfl, rfl⟩, fun b hb => ?_, q⟩
    have e : b = s1.heap.objs.size := by simpa using hb
    subst e
    exact I1.fpOk (Nat.le_refl _) (I1.hok.fresh (Nat.le_refl _))
theorem qi_seq (h : QE X e te) : QI X tg e (wSeq te) := PI.weak (pi_seq h) fun σ H R h => by
  obtain ⟨σD, S, RD, RX, hs, hS, q, tk, k⟩ := h
  refine ⟨σD, S, _, RX, hs, hS, q, tk, fun d S' v H' e r hS' q1 => ?_⟩
  cases r <;> first | exact False.elim q1 | skip
  case ref a =>
    obtain ⟨ds, e1, q1⟩ := q1
    obtain ⟨vs, hq, r⟩ := lstOf_ok hS' e1
    exact ⟨a, rfl, .inl ⟨⟨vs, hq⟩, k _ _ _ _ _ e hS' (walkD_list e1) q1⟩⟩
  case tup ds vs a hq r => exact ⟨a, rfl, .inr ⟨⟨vs, hq⟩, k _ _ _ _ _ e hS' (walkD_tup hq r) q1⟩⟩
theorem qi_enum (h : QE X e te) (hg : Gl X "enumerate") (hm : X.mg "enumerate" = none) (hs : starEach [e] X.env = [(false, eval e X.env)]) :
    QI X (.Tuple elts kk tpos) (.Call (.Name "enumerate" p) [e] [] pos) (wEnum te) := PI.weak (pi_enumA hg hm (pa_cons h pa_nil hs) hs) fun σ H R h => by
  obtain ⟨σD, S, RD, RX, hs, hS, q, tk, k⟩ := h
  refine ⟨σD, S, _, RX, hs, hS, q, tk, fun d S' v H' e r hS' q1 => ?_⟩
  cases r <;> first | exact False.elim q1 | skip
  case ref a =>
    obtain ⟨ds, e1, q1⟩ := q1
    obtain ⟨vs, hq, r⟩ := lstOf_ok hS' e1
    exact ⟨a, vs, rfl, .inl ⟨hq, k _ _ _ _ _ e hS' walkD_enumL q1⟩⟩
  case tup ds vs a hq r => exact ⟨a, vs, rfl, .inr ⟨hq, k _ _ _ _ _ e hS' (walkD_enumT hq r) q1⟩⟩
theorem qi_rev (h : QE X e te) (hg : Gl X "reversed") (hm : X.mg "reversed" = none) (hs : starEach [e] X.env = (false, eval e X.env) :: starEach [] X.env) :
    QI X tg (.Call (.Name "reversed" p) [e] [] pos) (wRev te) := PI.weak (_root_.RT.pi_revA hg hm h hs) fun σ H R h => by
  obtain ⟨σD, S, RD, RX, hs, hS, q, tk, k⟩ := h
  refine ⟨σD, S, _, RX, hs, hS, q, tk, fun d S' v H' e r hS' q1 => ?_⟩
  cases r <;> first | exact False.elim q1 | skip
  case ref a =>
    obtain ⟨ds, e1, q1⟩ := q1
    obtain ⟨vs, hq, r⟩ := lstOf_ok hS' e1
    exact ⟨a, vs, rfl, .inl ⟨hq, k _ _ _ _ _ e hS' (by rw [← r.length]; exact walkD_revL) q1⟩⟩
  case tup ds vs a hq r => exact ⟨a, vs, rfl, .inr ⟨hq, k _ _ _ _ _ e hS' (walkD_revT hq r) q1⟩⟩
theorem qi_rng1 {ta : RA} (h : QA X [e] ta) (hg : Gl X "range") (hm : X.mg "range" = none) (hs : starEach [e] X.env = [(false, eval e X.env)]) : QI X tg (.Call (.Name "range" p) [e] [] pos) (wRng1 ta) :=
  PI.weak (pi_range1 hg hm h hs) fun σ H R h => by
    obtain ⟨σD, S, RD, RX, hs, hS, q, tk, k⟩ := h
    refine ⟨σD, S, _, RX, hs, hS, q, tk, fun ds S' vs H' e r hS' q1 => ?_⟩
    match ds, r, q1 with
    | [.int j], .cons (.int _) .nil, q1 =>
      have w : WalkD X.K H' (Itr 0 (j - 0).toNat) (rngD 0 j) (fun _ => True) := walkD_range
      have e0 : (j - 0).toNat = j.toNat := by rw [Int.sub_zero]
      rw [e0] at w
      exact ⟨j, rfl, q1.1.1, q1.1.2, k _ _ _ _ _ e hS' w q1.2⟩
theorem qi_rng2 {a b : Expr} {ta : RA} (h : QA X [a, b] ta) (hg : Gl X "range") (hm : X.mg "range" = none) (hs : starEach [a, b] X.env = [(false, eval a X.env), (false, eval b X.env)]) (hs2 : starEach [b] X.env = [(false, eval b X.env)]) :
    QI X tg (.Call (.Name "range" p) [a, b] [] pos) (wRng2 ta) :=
  PI.weak (pi_range2 hg hm h hs hs2) fun σ H R h => by
    obtain ⟨σD, S, RD, RX, hs, hS, q, tk, k⟩ := h
    refine ⟨σD, S, _, RX, hs, hS, q, tk, fun ds S' vs H' e r hS' q1 => ?_⟩
    match ds, r, q1 with
    | [.int i, .int j], .cons (.int _) (.cons (.int _) .nil), q1 =>
      exact ⟨i, j, rfl, ⟨q1.1.1.1, q1.1.1.2, q1.1.2.1, q1.1.2.2⟩, k _ _ _ _ _ e hS' walkD_range q1.2⟩
end
end Ev

namespace Ev
open PySem PySem.Spec PyProof.Rows L2
/-! ### targets -/
inductive Tg where
  | nm (i : Nat)
  | tup (ts : List Tg)
mutual
def bindG : Tg → Dt → Slo → Option Slo
  | .nm i, d, σ => some (σ.set i (some d))
  | .tup ts, .tup ds, σ => bindGs ts ds σ
  | .tup _, _, _ => none
def bindGs : List Tg → List Dt → Slo → Option Slo
  | [], [], σ => some σ
  | t :: ts, d :: ds, σ => (bindG t d σ).bind (bindGs ts ds)
  | [], _ :: _, _ => none
  | _ :: _, [], _ => none
end
mutual
def slotsG : Tg → List Nat
  | .nm i => [i]
  | .tup ts => slotsGs ts
def slotsGs : List Tg → List Nat
  | [] => []
  | t :: ts => slotsG t ++ slotsGs ts
end
/-- slots but these stay -/
def Same (vs : List Nat) (σ σ' : List (Option V)) : Prop := σ'.length = σ.length ∧ ∀ i : Nat, i ∉ vs → σ'[i]? = σ[i]?
def liftG (X : Cx) (t : Tg) : TG := fun v σ H Q => ∃ d σD σD', DR X.K H d v ∧ SloR X.K H σD σ ∧ bindG t d σD = some σD' ∧ ∀ σ', SloR X.K H σD' σ' → Same (slotsG t) σ σ' → Q σ' H
def liftGs (X : Cx) (ts : List Tg) : TGs := fun vs σ H Q => ∃ ds σD σD', DRs X.K H ds vs ∧ SloR X.K H σD σ ∧ bindGs ts ds σD = some σD' ∧ ∀ σ', SloR X.K H σD' σ' → Same (slotsGs ts) σ σ' → Q σ' H
def QG (X : Cx) (tg : Expr) (t : Tg) : Prop := PG X tg (liftG X t)
def QGs (X : Cx) (tgs : List Expr) (ts : List Tg) : Prop := PGs X tgs (liftGs X ts)
section
variable {X : Cx} {pos : Pos}
theorem PG.weak {tg : Expr} {t t' : TG} (h : PG X tg t) (w : ∀ v σ H Q, t' v σ H Q → t v σ H Q) : PG X tg t' := ⟨fun pins s σ H v u Q I r q => h.run pins s σ H v u Q I r (w v σ H Q q)⟩
theorem PGs.weak {tg : List Expr} {t t' : TGs} (h : PGs X tg t) (w : ∀ v σ H Q, t' v σ H Q → t v σ H Q) : PGs X tg t' := ⟨fun pins s σ H v u Q I r q => h.run pins s σ H v u Q I r (w v σ H Q q)⟩
theorem qg_name {i : Nat} {x : Str} (hN : X.N.Nodup) (hi : X.N[i]? = some x) (hx : Loc X.env.scope x) (hf : X.fn x = true ∨ X.env.scope.names.lookup x = some .local) : QG X (.Name x pos) (.nm i) :=
  PG.weak (pg_name hN hi hx hf) fun v σ H Q h => by
    obtain ⟨d, σD, σD', r, hs, e, k⟩ := h
    have e : some (σD.set i (some d)) = some σD' := by
      rw [← e]
      simp only [bindG]
    cases e
    refine k _ (hs.set r i) ⟨by simp, fun j hj => ?_⟩
    rw [List.getElem?_set_ne]
    intro z
    exact hj (by simp [slotsG, z])
theorem qgs_nil : QGs X [] [] := PGs.weak pgs_nil fun v σ H Q h => by
  obtain ⟨ds, σD, σD', r, hs, e, k⟩ := h
  cases r with
  | nil =>
    simp only [bindGs, Option.some.injEq] at e
    subst e
    exact ⟨rfl, k σ hs ⟨rfl, fun _ _ => rfl⟩⟩
  | cons a b => simp [bindGs] at e
theorem qgs_cons {e : Expr} {es : List Expr} {t : Tg} {ts : List Tg} (h1 : QG X e t) (h2 : QGs X es ts) (hs : (assignEach (e :: es) X.env).map (·.2) = assign e X.env :: (assignEach es X.env).map (·.2)) : QGs X (e :: es) (t :: ts) :=
  PGs.weak (pgs_cons h1 h2 hs) fun v σ H Q h => by
    obtain ⟨ds, σD, σD', r, hs, e, k⟩ := h
    cases r with
    | nil => simp [bindGs] at e
    | cons a b =>
      simp only [bindGs] at e
      rename_i d v ds vs
      cases e1 : bindG t d σD with
      | none => rw [e1] at e; cases e
      | some σ1 =>
        rw [e1] at e
        refine ⟨v, vs, rfl, d, σD, σ1, a, hs, e1, fun σ' hs' sm => ?_⟩
        refine ⟨ds, σ1, σD', b, hs', e, fun σ2 hs2 sm2 => k σ2 hs2 ⟨sm2.1.trans sm.1, fun i hi => ?_⟩⟩
        simp only [slotsGs, List.mem_append, not_or] at hi
        exact (sm2.2 i hi.2).trans (sm.2 i hi.1)
theorem qg_tup {es : List Expr} {k : Nat} {ts : List Tg} {n : Nat} (hc : X.calm = true) (h : QGs X es ts) (hn : (assignEach es X.env).length = n) (hl : ts.length = n) (hst : (assignEach es X.env).findIdx? (·.1) = none) : QG X (.Tuple es k pos) (.tup ts) :=
  PG.weak (pg_tup hc h hn hst) fun v σ H Q h => by
    obtain ⟨d, σD, σD', r, hs, e, k⟩ := h
    cases r <;> first | (simp [bindG] at e; done) | skip
    case tup ds vs a hq r =>
      have e' : bindGs ts ds σD = some σD' := by
        rw [← e]
        simp only [bindG]
      refine ⟨a, vs, rfl, hq, ?_, ds, σD, σD', r, hs, e', fun σ' a b => k σ' a (by simpa [slotsG] using b)⟩
      rw [← r.length, ← hl]
      have len : ∀ (ts : List Tg) (ds : List Dt) (σ σ' : Slo), bindGs ts ds σ = some σ' → ds.length = ts.length := by
        intro ts
        induction ts with
        | nil => intro ds σ σ' e; cases ds with
          | nil => rfl
          | cons _ _ => simp [bindGs] at e
        | cons t ts ih => intro ds σ σ' e; cases ds with
          | nil => simp [bindGs] at e
          | cons d ds =>
            simp only [bindGs] at e
            cases e1 : bindG t d σ with
            | none => rw [e1] at e; cases e
            | some σ1 => rw [e1] at e; simp [ih _ _ _ e]
      exact len _ _ _ _ e'
end
/-! ### statements -/
def rsNext : RS := fun D σ S => D.nx σ S
def rsSeq (t u : RS) : RS := fun D σ S => t { D with nx := u D } σ S
def rsDrop (te : RE) : RS := fun D σ S => te σ S (fun _ S1 => D.nx σ S1) D.ex
def rsRet (te : RE) : RS := fun D σ S => te σ S D.rt D.ex
def rsRetN : RS := fun D _ S => D.rt .non S
def rsIf (c : RT) (t u : RS) : RS := fun D σ S => c σ S (fun b S1 => if b = true then t D σ S1 else u D σ S1) D.ex
def rsAsg (te : RE) (t : Tg) : RS := fun D σ S => te σ S (fun x S1 => ∃ σ2, bindG t x σ = some σ2 ∧ D.nx σ2 S1) D.ex
def rsPar (i j : Nat) (ta : RA) : RS := fun D σ S => ta σ S (fun ds S1 => ∃ x y, ds = [x, y] ∧ D.nx ((σ.set i (some x)).set j (some y)) S1) D.ex
def rsPar3 (i j l : Nat) (ta : RA) : RS := fun D σ S => ta σ S (fun ds S1 => ∃ x y z, ds = [x, y, z] ∧ D.nx (((σ.set i (some x)).set j (some y)).set l (some z)) S1) D.ex
def rsAug (i : Nat) (f : Dt → Dt → Sto → QD → Prop) (te : RE) : RS := fun D σ S => ∃ x, σ[i]? = some (some x) ∧ te σ S (fun y S1 => f x y S1 (fun z S2 => D.nx (σ.set i (some z)) S2)) D.ex
def setD : Dt → Dt → Dt → Sto → (Sto → Prop) → Prop
  | .ref a, .int i, x, S, Q => ∃ xs j, S a = some (.lst xs) ∧ ixN xs.length i = some j ∧ Q (put S a (.lst (xs.set j x)))
  | _, _, _, _, _ => False
def rsSet (te to ti : RE) : RS := fun D σ S => te σ S (fun x S1 => to σ S1 (fun o S2 => ti σ S2 (fun i S3 => setD o i x S3 (D.nx σ)) D.ex) D.ex) D.ex
def rsBreak : RS := fun D σ S => D.bk σ S
def rsCont : RS := fun D σ S => D.ct σ S
def rsNever : RS := fun _ _ _ => False
section
variable {X : Cx} {st : Stmt} {rest : List Stmt} {t u : RS} {e : Expr} {te : RE} {pos : Pos}
theorem qs_pass : QS X (.Pass pos) rsNext := PS.weak ps_pass fun D σ H ⟨σD, S, DD, hs, hS, q, o⟩ => o.nx σD S σ H Ext.refl hs hS q
theorem qs_break : QS X (.Break pos) rsBreak := PS.weak ps_break fun D σ H ⟨σD, S, DD, hs, hS, q, o⟩ => o.bk σD S σ H Ext.refl hs hS q
theorem qs_cont : QS X (.Continue pos) rsCont := PS.weak ps_continue fun D σ H ⟨σD, S, DD, hs, hS, q, o⟩ => o.ct σD S σ H Ext.refl hs hS q
theorem qs_never : QS X st rsNever := PS.weak ps_never fun D σ H ⟨_, _, _, _, _, q, _⟩ => q
theorem qss_nil : QSs X [] rsNext := PSs.weak pss_nil fun D σ H ⟨σD, S, DD, hs, hS, q, o⟩ => o.nx σD S σ H Ext.refl hs hS q
theorem qss_cons (h1 : QS X st t) (h2 : QSs X rest u) : QSs X (st :: rest) (rsSeq t u) := PSs.weak (pss_cons h1 h2) fun D σ H ⟨σD, S, DD, hs, hS, q, o⟩ =>
  ⟨σD, S, { DD with nx := u DD }, hs, hS, q, ⟨fun σD' S' σ' H' e hs' hS' q' => ⟨σD', S', DD, hs', hS', q', o.ext e⟩, o.rt, o.bk, o.ct, o.ex⟩⟩
theorem qss_one (h1 : QS X st t) : QSs X [st] t := pss_one h1
theorem qs_expr (he : QE X e te) (hs : swapsWith e none pos.line X.env = pure false) : QS X (.Expr e pos) (rsDrop te) := PS.weak (ps_expr he hs) fun D σ H ⟨σD, S, DD, hs, hS, q, o⟩ =>
  ⟨σD, S, _, DD.ex, hs, hS, q, o.ex, fun d S' v H' e r hS' q' => o.nx _ _ _ _ e (hs.ext e) hS' q'⟩
theorem qs_ret (he : QE X e te) : QS X (.Return (some e) pos) (rsRet te) := PS.weak (ps_ret he) fun D σ H ⟨σD, S, DD, hs, hS, q, o⟩ =>
  ⟨σD, S, _, DD.ex, hs, hS, q, o.ex, fun d S' v H' e r hS' q' => o.rt _ _ _ _ e r hS' q'⟩
theorem qs_retN : QS X (.Return none pos) rsRetN := PS.weak ps_retN fun D σ H ⟨σD, S, DD, hs, hS, q, o⟩ => o.rt _ _ _ _ Ext.refl .non hS q
theorem qs_if {c : Expr} {a b : List Stmt} {tc : RT} (hc : QT X c tc) (ha : QSs X a t) (hb : QSs X b u) : QS X (.If c a b pos) (rsIf tc t u) := PS.weak (ps_if hc ha hb) fun D σ H ⟨σD, S, DD, hs, hS, q, o⟩ =>
  ⟨σD, S, _, DD.ex, hs, hS, q, o.ex, fun d S' H' e hS' q' => by
    cases d with
    | true => exact ⟨σD, S', DD, hs.ext e, hS', q', o.ext e⟩
    | false => exact ⟨σD, S', DD, hs.ext e, hS', q', o.ext e⟩⟩
theorem asg_lift {D : Ends} {σ : L2.St} {H : Hp} {t : Tg} (h : liftS X (rsAsg te t) D σ H) : tAsg (liftE X te) (liftG X t) D σ H := by
  obtain ⟨σD, S, DD, hs, hS, q, o⟩ := h
  refine ⟨σD, S, _, DD.ex, hs, hS, q, o.ex, fun d S' v H' e r hS' q' => ?_⟩
  obtain ⟨σ2, e2, q2⟩ := q'
  exact ⟨d, σD, σ2, r, hs.ext e, e2, fun σ' hs' _ => o.nx _ _ _ _ e hs' hS' q2⟩
theorem qs_asg {tg : Expr} {t : Tg} (he : QE X e te) (hg : QG X tg t) (hs : swapsWithSole [tg] e pos.line X.env = pure false) (hw : swappedStores [tg] e X.env = pure none)
    (h1 : (assignEach [tg] X.env).map (·.2) = [assign tg X.env]) : QS X (.Assign [tg] e pos) (rsAsg te t) := PS.weak (ps_asg he hg hs hw h1) fun D σ H h => asg_lift h
theorem qs_set {i : Nat} {x : Str} {pos' : Pos} (hN : X.N.Nodup) (hi : X.N[i]? = some x) (hx : Loc X.env.scope x) (he : QE X e te) (hs : swapsWith e (some (.Name x pos')) pos.line X.env = pure false) (hf : X.fn x = true ∨ X.env.scope.names.lookup x = some .local) :
    QS X (.Assign [.Name x pos'] e pos) (rsAsg te (.nm i)) := PS.weak (ps_set hN hi hx he hs hf) fun D σ H ⟨σD, S, DD, hs, hS, q, o⟩ =>
  ⟨σD, S, _, DD.ex, hs, hS, q, o.ex, fun d S' v H' e r hS' ⟨σ2, e2, q'⟩ => by
    have e3 : some (σD.set i (some d)) = some σ2 := by rw [← e2]; simp only [bindG]
    cases e3
    exact o.nx _ _ _ _ e ((hs.ext e).set r i) hS' q'⟩
theorem qs_par {i j : Nat} {x y : Str} {a b : Expr} {ta : RA} {px py pt : Pos} {kt : Nat} {k2 : Nat} {pt2 : Pos} (hc : X.calm = true) (hN : X.N.Nodup) (hi : X.N[i]? = some x) (hj : X.N[j]? = some y) (hij : i ≠ j)
    (hx : X.env.scope.names.lookup x = some .local) (hy : X.env.scope.names.lookup y = some .local) (ha : QA X [a, b] ta)
    (hw : swappedStores [.Tuple [.Name x px, .Name y py] kt pt] (.Tuple [a, b] k2 pt2) X.env = pure (some [x, y])) :
    QS X (.Assign [.Tuple [.Name x px, .Name y py] kt pt] (.Tuple [a, b] k2 pt2) pos) (rsPar i j ta) := PS.weak (ps_par hc hN hi hj hij hx hy ha hw rfl) fun D σ H ⟨σD, S, DD, hs, hS, q, o⟩ =>
  ⟨σD, S, _, DD.ex, hs, hS, q, o.ex, fun ds S' vs H' e r hS' ⟨x, y, e1, q'⟩ => by
    subst e1
    match vs, r with
    | [v, w], .cons r1 (.cons r2 .nil) => exact ⟨v, w, rfl, o.nx _ _ _ _ e (((hs.ext e).set r1 i).set r2 j) hS' q'⟩⟩
theorem qs_par3 {i j l : Nat} {x y z : Str} {a b c : Expr} {ta : RA} {px py pz pt : Pos} {kt k2 : Nat} {pt2 : Pos} (hc : X.calm = true) (hN : X.N.Nodup) (hi : X.N[i]? = some x) (hj : X.N[j]? = some y) (hl : X.N[l]? = some z) (hij : i ≠ j) (hil : i ≠ l) (hjl : j ≠ l)
    (hx : X.env.scope.names.lookup x = some .local) (hy : X.env.scope.names.lookup y = some .local) (hz : X.env.scope.names.lookup z = some .local) (ha : QA X [a, b, c] ta)
    (hw : swappedStores [.Tuple [.Name x px, .Name y py, .Name z pz] kt pt] (.Tuple [a, b, c] k2 pt2) X.env = pure (some [x, y, z])) :
    QS X (.Assign [.Tuple [.Name x px, .Name y py, .Name z pz] kt pt] (.Tuple [a, b, c] k2 pt2) pos) (rsPar3 i j l ta) := PS.weak (ps_par3 hc hN hi hj hl hij hil hjl hx hy hz ha hw rfl) fun D σ H ⟨σD, S, DD, hs, hS, q, o⟩ =>
  ⟨σD, S, _, DD.ex, hs, hS, q, o.ex, fun ds S' vs H' e r hS' ⟨x, y, z, e1, q'⟩ => by
    subst e1
    match vs, r with
    | [v, w, u], .cons r1 (.cons r2 (.cons r3 .nil)) => exact ⟨v, w, u, rfl, o.nx _ _ _ _ e ((((hs.ext e).set r1 i).set r2 j).set r3 l) hS' q'⟩⟩
theorem qs_aug {i : Nat} {x : Str} {op : Operator} {f : Dt → Dt → Sto → QD → Prop} {r : R2} {pos' : Pos} (hN : X.N.Nodup) (hi : X.N[i]? = some x) (hx : Loc X.env.scope x) (he : QE X e te) (ho : OpR X (inplaceOp op) r) (hf : FitR X f r) (hfn : X.fn x = true ∨ X.env.scope.names.lookup x = some .local) :
    QS X (.AugAssign (.Name x pos') op e pos) (rsAug i f te) := PS.weak (ps_aug hN hi hx he ho hfn) fun D σ H ⟨σD, S, DD, hs, hS, ⟨d, e1, q⟩, o⟩ => by
  obtain ⟨v, e2, r1⟩ := hs.2 i d e1
  refine ⟨v, e2, σD, S, _, DD.ex, hs, hS, q, o.ex, fun y S' u H' e r2 hS' q' => ?_⟩
  exact hf d y S' _ v u H' _ (r1.ext e) r2 hS' q' fun z S2 w H2 e3 r3 hS2 q2 => o.nx _ _ _ _ (e.trans e3) ((hs.ext (e.trans e3)).set r3 i) hS2 q2
theorem qs_sub {o i : Expr} {to ti : RE} {tpos : Pos} (he : QE X e te) (ho : QE X o to) (hi : QE X i ti)
    (ha : ∀ v, assign (.Subscript o i tpos) X.env v = (do
      let ov ← holding [v] (eval o X.env)
      let iv ← holding [v, ov] (eval i X.env)
      standAt tpos
      holding [v, ov, iv] (setItem ov iv v)
      release [v, ov, iv] []))
    (hs : swapsWithSole [.Subscript o i tpos] e pos.line X.env = pure false) (hw : swappedStores [.Subscript o i tpos] e X.env = pure none) :
    QS X (.Assign [.Subscript o i tpos] e pos) (rsSet te to ti) := PS.weak (ps_asg he (pg_sub ho hi set_list ha) hs hw rfl) fun D σ H ⟨σD, S, DD, hs, hS, q, ok⟩ =>
  ⟨σD, S, _, DD.ex, hs, hS, q, ok.ex, fun d S1 v H1 e1 r hS1 q1 =>
    ⟨σD, S1, _, DD.ex, hs.ext e1, hS1, q1, ok.ex, fun od S2 ov H2 e2 ro hS2 q2 =>
      ⟨σD, S2, _, DD.ex, (hs.ext e1).ext e2, hS2, q2, ok.ex, fun id S3 iv H3 e3 ri hS3 q3 => by
        have ro' := ro.ext e3
        cases ro' <;> cases ri <;> first | exact False.elim q3 | skip
        case ref.int a k =>
          obtain ⟨xs, j, g1, g2, q4⟩ := q3
          obtain ⟨vs, g3, rr⟩ := hS3 a _ g1
          refine ⟨a, vs, k, j, rfl, rfl, g3, by rw [← rr.length]; exact g2, ?_⟩
          have e := e1.trans (e2.trans e3)
          exact ok.nx _ _ _ _ (e.trans (Ext.lst g3)) (hs.ext (e.trans (Ext.lst g3))) (hS3.wr (.inl ⟨_, g3⟩) (DRs.set j rr (r.ext (e2.trans e3)))) q4⟩⟩⟩
end
/-! ### loops -/
def rsWhile (tc : RT) (tb : RS) : RS := fun D σ S => ∃ W : Nat → Slo → Sto → Prop, (∃ m, W m σ S) ∧ ∀ m σ S, W m σ S →
  tc σ S (fun b S1 => if b = true then ∃ N : Slo → Sto → Prop, (∀ σ' S', N σ' S' → ∃ m', m' < m ∧ W m' σ' S') ∧ tb { D with nx := N, ct := N, bk := D.nx } σ S1 else D.nx σ S1) D.ex
def forGo (t : Tg) (tb : RS) (D : EndsD) (G : Sto → Prop) : List Dt → Slo → Sto → Prop
  | [], σ, S => G S ∧ D.nx σ S
  | x :: xs, σ, S => G S ∧ ∃ σ2, bindG t x σ = some σ2 ∧ tb { D with nx := forGo t tb D G xs, ct := forGo t tb D G xs, bk := D.nx } σ2 S
def rsFor (wi : RI) (t : Tg) (tb : RS) : RS := fun D σ S => wi σ S (fun items G S1 => forGo t tb D G items σ S1) D.ex
section
variable {X : Cx} {pos : Pos} {tb : RS}
theorem qs_while {c : Expr} {body : List Stmt} {tc : RT} (hp : PassesOwn (model X.prog X.w) X.A X.env X.xe) (hc : QT X c tc) (hb : QSs X body tb) : QS X (.While c body [] pos) (rsWhile tc tb) :=
  PS.weak (ps_while hp hc hb) fun D σ H ⟨σD, S, DD, hs, hS, ⟨W, ⟨m, w0⟩, turn⟩, o⟩ => by
    refine ⟨fun m σ' H' => ∃ σD' S', SloR X.K H' σD' σ' ∧ StoR X.K H' S' ∧ Ext H H' ∧ W m σD' S', ⟨m, σD, S, hs, hS, Ext.refl, w0⟩, ?_⟩
    rintro m σ' H' ⟨σD', S', hs', hS', e, w⟩
    refine ⟨σD', S', _, DD.ex, hs', hS', turn m σD' S' w, o.ex, fun b S1 H1 e1 hS1 q1 => ?_⟩
    cases b with
    | true =>
      obtain ⟨N, hN, q1⟩ := q1
      refine ⟨fun σ2 H2 => ∃ σD2 S2, SloR X.K H2 σD2 σ2 ∧ StoR X.K H2 S2 ∧ Ext H H2 ∧ N σD2 S2, fun σ2 H2 ⟨σD2, S2, h1, h2, h3, n⟩ => ?_, ?_⟩
      · obtain ⟨m', hm, w'⟩ := hN σD2 S2 n
        exact ⟨m', hm, σD2, S2, h1, h2, h3, w'⟩
      · exact ⟨σD', S1, _, hs'.ext e1, hS1, q1, ⟨fun σD2 S2 σ2 H2 e2 h1 h2 n => ⟨σD2, S2, h1, h2, (e.trans e1).trans e2, n⟩, (o.ext (e.trans e1)).rt, fun σD2 S2 σ2 H2 e2 h1 h2 n => (o.ext (e.trans e1)).nx _ _ _ _ e2 h1 h2 n,
          fun σD2 S2 σ2 H2 e2 h1 h2 n => ⟨σD2, S2, h1, h2, (e.trans e1).trans e2, n⟩, o.ex⟩⟩
    | false => exact o.nx _ _ _ _ (e.trans e1) (hs'.ext e1) hS1 q1
theorem drop_cons {α : Type} {l : List α} {i : Nat} (h : i < l.length) : l.drop i = l[i] :: l.drop (i + 1) := List.drop_eq_getElem_cons h
theorem qs_for {tg iter : Expr} {body : List Stmt} {wi : RI} {t : Tg} (hp : PassesOwn (model X.prog X.w) X.A X.env X.xe) (hc : X.calm = true) (hi : QI X tg iter wi) (hg : QG X tg t) (hb : QSs X body tb)
    (hs : ∀ x, foldedSetIterable iter X.env x = pure x) : QS X (.For tg iter body [] pos) (rsFor wi t tb) :=
  PS.weak (ps_for hp hc hi hg hb hs) fun D σ H ⟨σD, S, DD, hs, hS, q, o⟩ => by
    refine ⟨σD, S, _, DD.ex, hs, hS, q, o.ex, fun items G S1 H1 J e1 hS1 WD q1 => ?_⟩
    refine ⟨fun i m σ' H' => m = items.length - i ∧ i ≤ items.length ∧ ∃ σD' S', SloR X.K H' σD' σ' ∧ StoR X.K H' S' ∧ Ext H1 H' ∧ forGo t tb DD G (items.drop i) σD' S', ⟨items.length, by simp, Nat.zero_le _, σD, S1, hs.ext e1, hS1, Ext.refl, q1⟩, ?_⟩
    rintro i m σ' H' ⟨rfl, hi, σD', S', hs', hS', e', q'⟩
    by_cases hlt : i < items.length
    · rw [drop_cons hlt] at q'
      obtain ⟨g, σ2, eb, q2⟩ := q'
      refine .inr ⟨WD.goes i H' S' hlt e' hS' g, fun σ3 H3 => ∃ σD3 S3, SloR X.K H3 σD3 σ3 ∧ StoR X.K H3 S3 ∧ Ext H1 H3 ∧ forGo t tb DD G (items.drop (i + 1)) σD3 S3, fun σ3 H3 ⟨σD3, S3, h1, h2, h3, n⟩ => ⟨items.length - (i + 1), by omega, rfl, hlt, σD3, S3, h1, h2, h3, n⟩, fun x H2 y => ?_⟩
      obtain ⟨d, hd, e2, hS2, r2⟩ := WD.yields i H' S' x H2 hlt e' hS' g y
      have ed : d = items[i] := by simpa [hlt] using hd.symm
      subst ed
      refine ⟨items[i], σD', σ2, r2, hs'.ext e2, eb, fun σ3 hs3 _ => ?_⟩
      have eA : Ext H H2 := (e1.trans e').trans e2
      exact ⟨σ2, S', _, hs3, hS2, q2, ⟨fun σD2 S2 σ2 H2 e3 h1 h2 n => ⟨σD2, S2, h1, h2, (e'.trans e2).trans e3, n⟩, (o.ext eA).rt, fun σD2 S2 σ2 H2 e3 h1 h2 n => (o.ext eA).nx _ _ _ _ e3 h1 h2 n,
        fun σD2 S2 σ2 H2 e3 h1 h2 n => ⟨σD2, S2, h1, h2, (e'.trans e2).trans e3, n⟩, o.ex⟩⟩
    · have e : i = items.length := by omega
      subst e
      rw [List.drop_length] at q'
      obtain ⟨g, q2⟩ := q'
      exact .inl ⟨WD.stops H' S' e' hS' g, o.nx _ _ _ _ (e1.trans e') hs' hS' q2⟩
end
end Ev

namespace Ev
open PySem PySem.Spec PyProof.Rows L2
/-! ### list(reversed(list)) -/
section
variable {prog : Program} {w : World} {A : Around} {E : Value → Shared → Prop} {s : Shared}
theorem lrev_init {R : Result → Shared → Prop} {it l : Addr} {items : Array Value} (hh : A.handled = none) (hit : s.heap.IsRevIter it l ((items.size : Int) - 1)) (hl : s.heap.IsList l items) (hne : l ≠ it) (hn : items.size ≤ sizeLine)
    (S : Addr) (hSi : S ≠ it) (hSl : S ≠ l) (hS : s.heap.get? S = some { cls := .type "list", data := .seq #[] })
    (hR : ∀ h' tk acc' c', (∀ b o, b ≠ S → b ≠ it → s.heap.get? b = some o → h'.get? b = some o) → h'.get? S = some { cls := .type "list", dict := none, data := .seq acc' c', slots := #[] } →
      ItemsOf (fun i v => items[items.size - 1 - i]? = some v) acc' items.size → R (.ok (.ret .none)) { s with heap := h', toks := tk }) :
    wpAny (model prog w) A.in1 (Builtin.«list.__init__» ⟨[.ref S, .ref it], []⟩)
      (fun fin s' => match fin with | .done f => R (.ok f) s' | .again c' => c'.quiet = true ∧ codeAny (model prog w) A c' R s') (fun e s' => R (.error e) s') s := by
  have W := (Walks.listRev (prog := prog) (w := w) (A := A.in1) hh it l hne items).toS
  show wpAny _ _ (do let old ← Builtin.List.listItems (.ref S); Builtin.List.listUpdate (.ref S) (fun _ => #[]); letGo old.toList.reverse; Builtin.List.listExtendWith (.ref S) (.ref it) .none) _ _ s
  refine wpAny_bind ?_
  unfold Builtin.List.listItems
  refine wpAny_bind (wpAny_seqItems hS rfl (wpAny_pure ?_))
  show wpAny _ _ (updateSeq S (fun _ => #[]) >>= fun _ => letGo (#[] : Array Value).toList.reverse >>= fun _ => Builtin.List.listExtendWith (.ref S) (.ref it) .none) _ _ s
  refine wpAny_bind (wpAny_updateSeq hS rfl ?_)
  have hS₂ := Heap.get?_update_self (Obj.mapSeq (fun _ => (#[] : Array Value))) hS rfl
  have oth : ∀ b o, b ≠ S → s.heap.get? b = some o → (s.heap.update S (Obj.mapSeq (fun _ => (#[] : Array Value)))).get? b = some o :=
    fun b o hb e => (Heap.get?_update_other _ _ (Ne.symm hb)).trans e
  have hit1 : (s.heap.update S (Obj.mapSeq (fun _ => (#[] : Array Value)))).IsRevIter it l ((items.size : Int) - 1) := hit.at fun o e => oth it o (Ne.symm hSi) e
  have hl1 : (s.heap.update S (Obj.mapSeq (fun _ => (#[] : Array Value)))).IsList l items := hl.at fun o e => oth l o (Ne.symm hSl) e
  refine wpAny_bind (wpAny_letGo ?_)
  have hT : ({ s with heap := s.heap.update S (Obj.mapSeq (fun _ => (#[] : Array Value))) } : Shared).TypeIs (.ref it) "list_reverseiterator" := Heap.IsRevIter.typeIs (s := { s with heap := s.heap.update S (Obj.mapSeq (fun _ => (#[] : Array Value))) }) hit1
  have h1 : Builtin.List.listSameRef (.ref S) (.ref it) = false := by simp [Builtin.List.listSameRef, hSi]
  have hSf : S ∉ [it, l] := by simp only [List.mem_cons, List.not_mem_nil, or_false, not_or]; exact ⟨hSi, hSl⟩
  unfold Builtin.List.listExtendWith
  refine wpAny_bind (wpAny_typeOf hT ?_)
  rw [if_neg (by rw [h1]; decide)]
  refine wpAny_bind (wpAny_pyIter_revIter (s := { s with heap := s.heap.update S (Obj.mapSeq (fun _ => (#[] : Array Value))) }) hit1 ?_)
  refine wpAny_bind (wpAny_holding ?_)
  unfold Builtin.List.listLengthHint
  refine wpAny_bind (wpAny_specialOf hT _root_.RT.nolen_lri ?_)
  show wpAny _ A.in1 (specialOf (Value.ref it) (Str.ofString "__length_hint__") >>= _) _ _ _
  refine wpAny_bind (wpAny_specialOf hT _root_.RT.hint_lri ?_)
  generalize hid : ("list_reverseiterator.__length_hint__" : String) = id0
  wp_delta
  rw [show splitId id0 = some ("list_reverseiterator", "__length_hint__") from by subst hid; decide +kernel]
  subst hid
  refine wpAny_bind (wpAny_isInstance (b := true) hT (by rw [isSubtype_type]; kernel_rfl) ?_)
  refine wpAny_pure ?_
  rw [if_neg (by decide)]
  have e0 : ((items.size : Nat) : Int) - 1 - ((0 : Nat) : Int) = (items.size : Int) - 1 := by omega
  refine wpAny_pure ⟨plainId_quiet F.plain_extend_loop _, codeAny_extend_loopS W hn _ hSf _ items.size 0 _ _ _ rfl (Nat.zero_le _) ⟨Nat.zero_le _, by rw [e0]; exact hit1, hl1⟩ hS₂ (ItemsOf.nil _) fun s' acc' c' hm hS' hacc => ?_⟩
  rw [Moved.eq_with hm]
  refine hR s'.heap s'.toks acc' c' (fun b o hb hbi e => hm.heap b o (fun hmem => ?_) (oth b o hb e)) hS' hacc
  rcases List.mem_cons.mp hmem with e' | hmem
  · exact hb e'
  · exact hbi (List.mem_singleton.mp hmem)
theorem call_lrev {Q : Value → Shared → Prop} {it l : Addr} {items : Array Value} (hh : A.handled = none) (hit : s.heap.IsRevIter it l ((items.size : Int) - 1)) (hl : s.heap.IsList l items) (hne : l ≠ it) (hn : items.size ≤ sizeLine)
    (hQ : ∀ h' tk acc' c', (∀ b o, b ≠ it → s.heap.get? b = some o → h'.get? b = some o) → h'.get? s.heap.objs.size = some { cls := .type "list", dict := none, data := .seq acc' c', slots := #[] } →
      ItemsOf (fun i v => items[items.size - 1 - i]? = some v) acc' items.size → Q (.ref s.heap.objs.size) { s with heap := h', toks := tk }) :
    wpAny (model prog w) A (call (.type "list") [.ref it]) Q E s := by
  refine callType_codes (Q₁ := fun obj s₁ => obj = .ref s.heap.objs.size ∧ s₁ = { s with heap := s.heap.push { cls := .type "list", data := .seq #[] } }) PySem.F.called_list (PySem.F.typeCall_list_1 _) PySem.F.entry_list_init
    (code_list_new _ ⟨rfl, rfl⟩) fun obj s₁ h₁ => ?_
  obtain ⟨rfl, rfl⟩ := h₁
  have hS : (s.heap.push { cls := .type "list", data := .seq #[] }).get? s.heap.objs.size = some { cls := .type "list", data := .seq #[] } := Heap.get?_push_size _ rfl
  obtain ⟨oi, hoi, _⟩ := id hit
  obtain ⟨ol, hol, _⟩ := id hl
  refine ⟨⟨_, hS, rfl⟩, PySem.F.args_list_init_2 _ _, lrev_init (A := A.in1) hh (hit.at fun o e => Heap.get?_push_of_some _ e) (hl.push _) hne hn _ (Nat.ne_of_gt (Heap.lt_size hoi)) (Nat.ne_of_gt (Heap.lt_size hol)) hS (fun h' tk acc' c' hk hS' hacc => ?_)⟩
  exact ⟨rfl, hQ h' tk acc' c' (fun b o hbi e => hk b o (Nat.ne_of_lt (Heap.lt_size e)) hbi (Heap.get?_push_of_some _ e)) hS' hacc⟩
theorem items_rev {its : List Value} {acc : Array Value} (h : ItemsOf (fun i v => its.toArray[its.toArray.size - 1 - i]? = some v) acc its.toArray.size) : acc.toList = its.reverse := by
  obtain ⟨h1, h2⟩ := h
  refine List.ext_getElem? fun i => ?_
  by_cases hi : i < acc.size
  · have h3 := h2 i acc[i] (by simp [hi])
    have hi' : i < its.length := by rw [h1] at hi; simpa using hi
    rw [List.getElem?_reverse hi']
    simp only [List.size_toArray, List.getElem?_toArray] at h3
    rw [h3]
    simp [hi]
  · rw [List.getElem?_eq_none (by simpa using Nat.le_of_not_lt hi), List.getElem?_eq_none]
    rw [List.length_reverse]
    have e : acc.size = its.length := by rw [h1]; simp
    omega
end
section
variable {X : Cx} {te : TE}
/-- list(reversed(e)), e a list -/
def tLRev (K : PySem.W.Frag) (te : TE) : TE := fun σ H Q => te σ H fun v H1 => ∃ (a : Addr) (xs : List V), v = .ref a ∧ SqL K H1 a xs ∧ ∀ p, H1 p = none → Q (.ref p) (upd H1 p (.lst xs.reverse))
theorem pe_lrev {e : Expr} {p1 p2 pos pos2 : Pos} (hc : X.calm = true) (hg : Gl X "list") (hm : X.mg "list" = none) (hgr : Gl X "reversed") (hmr : X.mg "reversed" = none) (he : PE X e te) (hs : starEach [e] X.env = (false, eval e X.env) :: starEach [] X.env) :
    PE X (.Call (.Name "list" p1) [.Call (.Name "reversed" p2) [e] [] pos2] [] pos) (tLRev X.K te) := by
  refine ⟨fun pins s σ H Q I h => ?_⟩
  have hs1 : starEach [Expr.Call (.Name "reversed" p2) [e] [] pos2] X.env = (false, eval (Expr.Call (.Name "reversed" p2) [e] [] pos2) X.env) :: starEach [] X.env := rfl
  refine Call_ (ld_blt I hg hm (by decide +kernel : bootBuiltins "list" = some (.type "list")) (PyProof.Rows.callWith_type1 (args_cons ?_ hs1) hs1 rfl))
  refine Call_ (ld_blt I hgr hmr PyProof.Rows.boot_reversed (PyProof.Rows.callWith_type1 (args_cons (thn (he.run pins s σ H _ I h) fun u s1 ⟨v, H1, I1, r1, q1⟩ => args_nil ?_) hs) hs rfl))
  obtain ⟨a, xs, ev, hq, q⟩ := q1
  subst ev
  obtain rfl : u = Value.ref a := r1
  obtain ⟨its, rv, p', hz⟩ := I1.list hq
  have hl := rv.length
  refine call_reversed_list p'.isList (args_nil ?_)
  have hal : a < s1.heap.objs.size := p'.lt
  have I2 : Inv X pins σ H1 { s1 with heap := s1.heap.push (revObj a ((its.toArray.size : Int) - 1)) } := I1.kept (t' := s1.toks) fun b o e => Heap.get?_push_of_some _ e
  have fI : FpOk X pins H1 s1.heap.objs.size := I1.fpOk (Nat.le_refl _) (I1.hok.fresh (Nat.le_refl _))
  refine call_lrev (I.ok.hd hc) (it := s1.heap.objs.size) (l := a) (items := its.toArray) ⟨_, Heap.get?_push_size _ rfl, rfl, rfl⟩ (p'.isList.push _) (Nat.ne_of_lt hal) (by simp; omega) fun h' tk acc c hk hS hacc => ?_
  have hsz : (s1.heap.push (revObj a ((its.toArray.size : Int) - 1))).objs.size = s1.heap.objs.size + 1 := Heap.size_push ..
  have fresh : H1 (s1.heap.objs.size + 1) = none := I1.hok.fresh (Nat.le_succ _)
  have er : acc = its.reverse.toArray := by rw [← items_rev hacc]
  have hS' : h'.get? (s1.heap.objs.size + 1) = some { cls := .type "list", dict := none, data := .seq acc c, slots := #[] } := by rw [← hsz]; exact hS
  obtain ⟨f0, f1, f2, f3, f4, f5⟩ := fI
  have new : ObjOk X.prog X.w (upd H1 (s1.heap.objs.size + 1) (.lst xs.reverse)) h' (s1.heap.objs.size + 1) (.lst xs.reverse) := by
    refine ⟨by rw [List.length_reverse]; exact hz, its.reverse, c, ?_, ?_⟩
    · have rev : ∀ {xs : List V} {us : List Value}, Vals xs us → Vals xs.reverse us.reverse := by
        intro xs
        induction xs with
        | nil => intro us r; cases r; exact .nil
        | cons x xs ih => intro us r; cases r with | cons a b => rw [List.reverse_cons, List.reverse_cons]; exact (ih b).append (.cons a .nil)
      exact rev rv
    · rw [hS', er]
  have I3 : Inv X pins σ (upd H1 (s1.heap.objs.size + 1) (.lst xs.reverse)) { s1 with heap := h', toks := tk } := by
    refine I1.turnedNew (ch := [s1.heap.objs.size]) (fun b ob hb q => hk b ob (fun z => hb (by simp [z])) (Heap.get?_push_of_some _ q)) (fun b hb => ?_) (Nat.le_succ _) new
    have e : b = s1.heap.objs.size := by simpa using hb
    subst e
    exact ⟨f0, f1, f2, f3, f4, f5⟩
  rw [hsz]
  exact ⟨.ref (s1.heap.objs.size + 1), _, I3, rfl, q _ fresh⟩
end
end Ev

namespace Ev
open PySem PySem.Spec PyProof.Rows L2
/-! ### defs -/
structure GRoom (k : Nat) (A : Around) : Prop where
  r : Room k A
  g : A.guards = some []
theorem GRoom.mono {j k : Nat} {A : Around} (r : GRoom k A) (h : j ≤ k) : GRoom j A := ⟨r.r.mono h, r.g⟩
theorem GRoom.deeper {k : Nat} {A : Around} (r : GRoom (k + 1) A) (env : Env) : GRoom k (A.deeper env) := ⟨r.r.deeper env, r.g⟩
/-- what a def promises, over deep values -/
abbrev SpD := List Dt → Sto → QD → (XD → Sto → Prop) → Prop
def liftSp (K : PySem.W.Frag) (sp : SpD) : Sp := fun vs H Q E => ∃ ds S QE RD, DRs K H ds vs ∧ StoR K H S ∧ sp ds S QE RD ∧
  (∀ d S' v H', Ext H H' → DR K H' d v → StoR K H' S' → QE d S' → Q v H') ∧ (∀ x S' cls d H', Ext H H' → XR K H' x cls d → StoR K H' S' → RD x S' → E cls d H')
structure FnG (P : Program) (w : World) (K : PySem.W.Frag) (mg : Str → Option Value) (base : Heap) (k : Nat) (f : Addr) (fd : FuncData) (ps : List Str) (sp : SpD) : Prop where
  len : ∀ ds S Q R, sp ds S Q R → ds.length = ps.length
  run : ∀ (A : Around) (outer : List Env) (s : Shared) (H : Hp) (args : Args) (us : List Value) (vs : List V) (Q : VK) (E : XK), GRoom k A → Env0 P w K mg base A outer s H → BindsTo s fd args (ps.zip us) → Vals vs us → liftSp K sp vs H Q E →
    codeAny (model P w) A (.call (.ref f) args) (CR (L2.CX P w) outer P w H s Q E) s
/-- the context of a body -/
structure Good (X : Cx) (k : Nat) (top : Bool) : Prop where
  nd : X.N.Nodup
  calm : X.calm = true
  room : GRoom k X.A
  pass : PassesOwn (model X.prog X.w) X.A X.env X.xe
  kind : X.env.scope.kind = .function
  fn : top = true → ∀ x, X.fn x = true
/-- the names' values at the entry -/
def startD (N : List Str) (ds : List Dt) : Slo := ds.map some ++ List.replicate (N.length - ds.length) none
theorem startD_ok {K : PySem.W.Frag} {H : Hp} {N : List Str} {ds : List Dt} {vs : List V} (r : DRs K H ds vs) : SloR K H (startD N ds) (L2.start N vs) := by
  have hl := r.length
  refine ⟨by simp [startD, L2.start, hl], fun i d e => ?_⟩
  unfold startD at e
  unfold L2.start
  by_cases hi : i < ds.length
  · rw [List.getElem?_append_left (by simpa using hi), List.getElem?_map] at e
    rw [List.getElem?_append_left (by simpa [← hl] using hi), List.getElem?_map]
    cases q : ds[i]? with
    | none => rw [q] at e; cases e
    | some d' =>
      rw [q] at e; cases e
      obtain ⟨v, h1, h2⟩ := r.get q
      exact ⟨v, by rw [h1]; rfl, h2⟩
  · rw [List.getElem?_append_right (by simpa using hi), List.getElem?_replicate] at e
    split at e <;> cases e
/-- the ends of a body: less may be told behind it -/
def endsD (Q : QD) (R : XD → Sto → Prop) : EndsD where
  nx := fun _ S => ∃ S0, Sub S0 S ∧ Q .non S0
  rt := fun d S => ∃ S0, Sub S0 S ∧ Q d S0
  ex := fun x _ S => ∃ S0, Sub S0 S ∧ R x S0
/-- THE RULE: a def by its body -/
theorem fn_by {P : Program} {w : World} {K : PySem.W.Frag} {mg : Str → Option Value} {base : Heap} {k : Nat} {f : Addr} {x qual : Str} {params : Arguments} {body : List Stmt} {scope : Scope} {fd : FuncData} {N ps : List Str} {sp : SpD} {dvs : List V} {kws : List (Str × V)}
    (F : FunD K x qual params body scope dvs kws f fd) (S : FnScope N ps scope) (len : ∀ ds S Q R, sp ds S Q R → ds.length = ps.length)
    (t : RS) (hb : ∀ X : Cx, X.prog = P → X.w = w → X.K = K → X.mg = mg → X.base = base → X.N = N → X.env.scope = scope → Good X k true → QSs X body t)
    (hw : ∀ ds St Q R, sp ds St Q R → t (endsD Q R) (startD N ds) St) : FnG P w K mg base (k + 1) f fd ps sp := by
  obtain ⟨oc, od, dV, kV, doc, pm, an, cdv, ct, osl, rfl, lk, hcd, _, _⟩ := F.ex
  refine ⟨len, fun A outer s H args us vs Q E hr e0 hbt r hsp => ?_⟩
  obtain ⟨ds, St, QE, RD, hds, hS, q, kq, kx⟩ := hsp
  have hl : vs.length = ps.length := by rw [← hds.length]; exact len _ _ _ _ q
  refine LamX.run_ofS lk hcd S hr.r e0 hbt r hl fun hr' => ?_
  have tk0 : Takes (cxOf (L2.CX P w) P w K mg base N qual scope f cdv A outer s H E) (fun cls d _ H' => E cls d H') :=
    takes_of (X := cxOf (L2.CX P w) P w K mg base N qual scope f cdv A outer s H E) rfl rfl rfl rfl
  have gd : Good (cxOf (L2.CX P w) P w K mg base N qual scope f cdv A outer s H E) k true :=
    ⟨S.nd, rfl, ⟨hr', hr.g⟩, passes_of (X := cxOf (L2.CX P w) P w K mg base N qual scope f cdv A outer s H E) rfl, S.kind, fun _ _ => rfl⟩
  refine ⟨_, hb _ rfl rfl rfl rfl rfl rfl rfl gd, startD N ds, St, endsD QE RD, startD_ok hds, hS, hw ds St QE RD q, ?_⟩
  refine ⟨fun σD S' σ H' e h1 h2 ⟨S0, sb, q⟩ => kq _ _ _ _ e .non (h2.sub sb) q, fun d S' v H' e r h2 ⟨S0, sb, q⟩ => kq _ _ _ _ e r (h2.sub sb) q, fun _ _ _ _ _ _ _ q => q.elim, fun _ _ _ _ _ _ _ q => q.elim, ?_⟩
  refine fun u s' xx => ?_
  obtain ⟨a, B, sI, pins, σ, H', cls, d, e, I, nb, up, sky, na, os, ag, x, σD, S', h1, h2, h3, S0, sb, q⟩ := xx
  have ext : Ext H H' := ⟨fun a xs e => I.base.tups a xs e, fun a o u e => I.base.frzs a o u e⟩
  exact tk0 u s' ⟨a, B, sI, pins, σ, H', cls, d, e, I, nb, up, sky, na, os, ag, kx x S0 cls d H' ext h1 (h3.sub sb) q⟩
end Ev

namespace Ev
open PySem PySem.Spec PyProof.Rows L2
/-! ### calls of defs -/
def rCall (sp : SpD) (ta : RA) : RE := fun σ S Q R => ta σ S (fun ds S1 => sp ds S1 Q (fun x S' => R x σ S')) R
/-- a call with keywords: n positional values, then the keywords' values; perm puts them in the parameters' order -/
def rCallK (sp : SpD) (n : Nat) (perm : List Nat) (ta tk : RA) : RE := fun σ S Q R => ta σ S (fun ds S1 => tk σ S1 (fun es S2 => ds.length = n ∧ n + es.length = perm.length ∧ sp (perm.filterMap fun i => (ds ++ es)[i]?) S2 Q (fun x S' => R x σ S')) R) R
section
variable {X : Cx} {k j : Nat} {f : Addr} {fd : FuncData} {ps ks : List Str} {sp : SpD} {x : Str} {p pos : Pos} {es : List Expr} {ta tk : RA} {kws : List Keyword}
theorem run_g {pins : List (Addr × Obj)} {σ : L2.St} {σD : Slo} {S : Sto} {H : Hp} {s : Shared} {Q : VK} {QE : QD} {R : XQ} {us : List Value} {args : Args} {vs : List V} {ds : List Dt} (F : FnG X.prog X.w X.K X.mg X.base k f fd ps sp) (hr : GRoom k X.A)
    (hb : BindsTo s fd args (ps.zip us)) (I : Inv X pins σ H s) (r : Vals vs us) (hs : SloR X.K H σD σ) (hS : StoR X.K H S) (hd : DRs X.K H ds vs) (tk : TakesD X R) (h : sp ds S QE (fun x S' => R x σD S'))
    (k : ∀ d S' v H', Ext H H' → DR X.K H' d v → StoR X.K H' S' → QE d S' → Q v H') : codeAny (model X.prog X.w) X.A (.call (.ref f) args) (fun r s' => match r with | .ok (.ret u) => EP X pins σ Q u s' | .ok _ => False | .error e => X.xe e s') s := by
  refine codeAny_mono (F.run X.A X.stack s H args us vs Q (fun cls d H' => wxD X.K R cls d σ H') hr I.env0 hb r ⟨ds, S, QE, _, hd, hS, h, k, fun x S' cls d H' e h1 h2 q => ⟨x, σD, S', h1, hs.ext e, h2, q⟩⟩) fun r s' hq => ?_
  cases r with
  | error e => exact tk e s' (XE.of_call I (fun cls d H' h => h) hq)
  | ok fl =>
    cases fl with
    | ret u => exact I.after hq
    | next => exact False.elim hq
    | brk => exact False.elim hq
    | cont => exact False.elim hq
theorem to_call {M : Model} {A : Around} {E : Value → Shared → Prop} {s : Shared} {f : Value} {us : List Value} {kw : List (Str × Value)} {Q : Value → Shared → Prop}
    (h : codeAny M A (.call f ⟨us, kw⟩) (fun r s' => match r with | .ok (.ret u) => Q u s' | .ok _ => False | .error e => E e s') s) : wpAny M A (call f us kw) Q E s :=
  wpAny_call (codeAny_mono h fun r s' hq => by
    cases r with
    | error e => exact hq
    | ok fl =>
      cases fl with
      | ret u => exact hq
      | next => exact False.elim hq
      | brk => exact False.elim hq
      | cont => exact False.elim hq)
theorem fin_call {pins : List (Addr × Obj)} {σ : L2.St} {σD : Slo} {H : Hp} {Q : VK} {QE : QD} {R : XQ} (F : FnG X.prog X.w X.K X.mg X.base k f fd ps sp) (hr : GRoom k X.A) (hb : Binds X.K fd ps []) (hs : SloR X.K H σD σ) (tk : TakesD X R)
    (k : ∀ d S' v H', Ext H H' → DR X.K H' d v → StoR X.K H' S' → QE d S' → Q v H') {us : List Value} {s1 : Shared} {vs : List V} {H1 : Hp} {ds : List Dt} {S1 : Sto} (I1 : Inv X pins σ H1 s1) (r : Vals vs us) (e : Ext H H1) (hd : DRs X.K H1 ds vs) (hS1 : StoR X.K H1 S1)
    (q1 : sp ds S1 QE (fun x S' => R x σD S')) : wpAny (model X.prog X.w) X.A (call (.ref f) us) (EP X pins σ Q) X.xe s1 := by
  have hl : us.length = ps.length := by rw [← r.length, ← hd.length]; exact F.len _ _ _ _ q1
  refine to_call (run_g F hr (us := us) ?_ I1 r (hs.ext e) hS1 hd tk q1 fun d S' v H' e2 => k d S' v H' (e.trans e2))
  have := hb s1 us I1.kIn (by rw [List.append_nil]; exact hl)
  rw [List.append_nil] at this
  exact this
theorem qe_call0 (F : FnG X.prog X.w X.K X.mg X.base k f fd ps sp) (hr : GRoom k X.A) (hg : Gl X x) (hm : X.mg x = some (.ref f)) (hk : PySem.W.keepIn X.K (.ref f) = true) (hb : Binds X.K fd ps []) (hdb : (x == ("__debug__" : Str)) = false) :
    QE X (.Call (.Name x p) [] [] pos) (rCall sp rNil) := by
  refine ⟨fun pins s σ H Q I h => ?_⟩
  obtain ⟨σD, S, QE, R, hs, hS, q, tk, k⟩ := h
  refine wpAny_Call_Name_kw (ld_glob I hg hm ?_ hdb)
  exact PySem.W.callWith_K0 I.kIn hk (fin_call F hr hb hs tk k (us := []) I .nil Ext.refl .nil hS q)
theorem qe_call {e : Expr} {rest : List Expr} (F : FnG X.prog X.w X.K X.mg X.base k f fd ps sp) (hr : GRoom k X.A) (hg : Gl X x) (hm : X.mg x = some (.ref f)) (hk : PySem.W.keepIn X.K (.ref f) = true) (hb : Binds X.K fd ps [])
    (ha : QA X (e :: rest) ta) (hdb : (x == ("__debug__" : Str)) = false) (he : starEach (e :: rest) X.env = (false, eval e X.env) :: starEach rest X.env) (hpl : (backTo pos (starEach rest X.env)).any (·.1) = false) :
    QE X (.Call (.Name x p) (e :: rest) [] pos) (rCall sp ta) := by
  refine ⟨fun pins s σ H Q I h => ?_⟩
  obtain ⟨σD, S, QE, R, hs, hS, q, tk, k⟩ := h
  refine wpAny_Call_Name_kw (ld_glob I hg hm ?_ hdb)
  refine PySem.W.callWith_K (h₀ := X.base) I.ok.mod.kin hk (thn (ha.run pos pins s σ H (fun vs H1 => ∃ ds S1, Ext H H1 ∧ DRs X.K H1 ds vs ∧ StoR X.K H1 S1 ∧ sp ds S1 QE (fun x S' => R x σD S')) I
    ⟨σD, S, _, R, hs, hS, q, tk, fun ds S1 vs H1 e r h1 q1 => ⟨ds, S1, e, r, h1, q1⟩⟩) fun us s1 ⟨vs, H1, I1, r, ds, S1, e, hd, hS1, q1⟩ => ⟨I1.kIn, ?_⟩) he hpl
  exact fin_call F hr hb hs tk k (us := us) I1 r e hd hS1 q1
/-- how the parameters are bound by keywords -/
def KB (K : PySem.W.Frag) (fd : FuncData) (ps : List Str) (n : Nat) (ks : List Str) (perm : List Nat) : Prop :=
  ∀ (s : Shared) (us ws : List Value), K.In s.heap → us.length = n → ws.length = ks.length → BindsTo s fd ⟨us, ks.zip ws⟩ (ps.zip (perm.filterMap fun i => (us ++ ws)[i]?))
theorem vals_perm {xs : List V} {us : List Value} (r : Vals xs us) : ∀ perm : List Nat, Vals (perm.filterMap fun i => xs[i]?) (perm.filterMap fun i => us[i]?)
  | [] => .nil
  | i :: l => by
    have ih := vals_perm r l
    cases e : xs[i]? with
    | none => rw [List.filterMap_cons_none e, List.filterMap_cons_none (r.none_of e)]; exact ih
    | some v =>
      obtain ⟨u, h1, h2⟩ := r.get e
      rw [List.filterMap_cons_some e, List.filterMap_cons_some h1]
      exact .cons h2 ih
theorem drs_perm {K : PySem.W.Frag} {H : Hp} {ds : List Dt} {vs : List V} (r : DRs K H ds vs) : ∀ perm : List Nat, DRs K H (perm.filterMap fun i => ds[i]?) (perm.filterMap fun i => vs[i]?)
  | [] => .nil
  | i :: l => by
    have ih := drs_perm r l
    cases e : ds[i]? with
    | none =>
      have e2 : vs[i]? = none := by
        rw [List.getElem?_eq_none_iff] at e ⊢
        rw [← r.length]; exact e
      rw [List.filterMap_cons_none e, List.filterMap_cons_none e2]; exact ih
    | some v =>
      obtain ⟨u, h1, h2⟩ := r.get e
      rw [List.filterMap_cons_some e, List.filterMap_cons_some h1]
      exact .cons h2 ih
/-- keywords' values -/
def QK (X : Cx) (kws : List Keyword) (t : RA) : Prop := PK X kws (liftA X t)
theorem PK.weak {t t' : TA} (h : PK X kws t) (w : ∀ σ H Q, t' σ H Q → t σ H Q) : PK X kws t' := ⟨fun pos pins s σ H Q I q => h.run pos pins s σ H Q I (w σ H Q q)⟩
theorem qk_nil : QK X [] rNil := PK.weak pk_nil fun σ H Q h => by
  obtain ⟨σD, S, QE, R, hs, hS, q, tk, k⟩ := h
  exact k _ _ _ _ Ext.refl .nil hS q
theorem qk_cons {e : Expr} {te : RE} {t : RA} {nm : Option Str} {kpos : Pos} (ha : QE X e te) (hr : QK X kws t) : QK X (⟨nm, e, kpos⟩ :: kws) (rCons te t) :=
  PK.weak (pk_cons ha hr) fun σ H Q h => by
    obtain ⟨σD, S, QE, R, hs, hS, q, tk, k⟩ := h
    refine ⟨σD, S, _, R, hs, hS, q, tk, fun d S' v H' e r hS' q1 => ?_⟩
    refine ⟨σD, S', _, R, hs.ext e, hS', q1, tk, fun ds S2 vs H2 e2 r2 hS2 q2 => ?_⟩
    exact k _ _ _ _ (e.trans e2) (.cons (r.ext e2) r2) hS2 q2
theorem fin_callK {n : Nat} {perm : List Nat} {pins : List (Addr × Obj)} {σ : L2.St} {σD : Slo} {H : Hp} {Q : VK} {QE : QD} {R : XQ} (F : FnG X.prog X.w X.K X.mg X.base k f fd ps sp) (hr : GRoom k X.A) (hb : KB X.K fd ps n ks perm) (hks : n + ks.length = perm.length) (hs : SloR X.K H σD σ) (tk : TakesD X R)
    (k : ∀ d S' v H', Ext H H' → DR X.K H' d v → StoR X.K H' S' → QE d S' → Q v H') {us ws : List Value} {s1 : Shared} {vs zs : List V} {H1 : Hp} {ds es : List Dt} {S1 : Sto} (I1 : Inv X pins σ H1 s1) (r : Vals vs us) (rz : Vals zs ws) (e : Ext H H1) (hd : DRs X.K H1 ds vs) (hz : DRs X.K H1 es zs) (hS1 : StoR X.K H1 S1)
    (q1 : ds.length = n ∧ n + es.length = perm.length ∧ sp (perm.filterMap fun i => (ds ++ es)[i]?) S1 QE (fun x S' => R x σD S')) : wpAny (model X.prog X.w) X.A (call (.ref f) us (ks.zip ws)) (EP X pins σ Q) X.xe s1 := by
  obtain ⟨l1, l2, q1⟩ := q1
  have h1 := hb s1 us ws I1.kIn (by rw [← r.length, ← hd.length]; exact l1) (by rw [← rz.length, ← hz.length]; omega)
  exact to_call (run_g F hr h1 I1 (vals_perm (r.append rz) perm) (hs.ext e) hS1 (drs_perm (DRs.app hd hz) perm) tk q1 fun d S' v H' e2 => k d S' v H' (e.trans e2))
theorem qe_callK0 {n : Nat} {perm : List Nat} (F : FnG X.prog X.w X.K X.mg X.base k f fd ps sp) (hr : GRoom k X.A) (hg : Gl X x) (hm : X.mg x = some (.ref f)) (hk : PySem.W.keepIn X.K (.ref f) = true) (hb : KB X.K fd ps 0 ks perm) (hp : 0 + ks.length = perm.length)
    (hkw : QK X kws tk) (hall : (backToKw pos (keywordEach kws X.env)).all (·.1.isSome) = true) (hks : (backToKw pos (keywordEach kws X.env)).filterMap (·.1) = ks) (hdb : (x == ("__debug__" : Str)) = false)
    (hpl : ((backTo pos (starEach [] X.env)).any (·.1) || (backToKw pos (keywordEach kws X.env)).any (·.1.isNone)) = false) :
    QE X (.Call (.Name x p) [] kws pos) (rCallK sp 0 perm rNil tk) := by
  refine ⟨fun pins s σ H Q I h => ?_⟩
  obtain ⟨σD, S, QE, R, hs, hS, q, tkX, k⟩ := h
  refine wpAny_Call_Name_kw (ld_glob I hg hm ?_ hdb)
  refine PySem.W.callWith_KW0 (h₀ := X.base) I.ok.mod.kin hk hall (thn (hkw.run pos pins s σ H (fun zs H1 => ∃ es S1, Ext H H1 ∧ DRs X.K H1 es zs ∧ StoR X.K H1 S1 ∧ ([] : List Dt).length = 0 ∧ 0 + es.length = perm.length ∧ sp (perm.filterMap fun i => ([] ++ es)[i]?) S1 QE (fun x S' => R x σD S')) I
    ⟨σD, S, _, R, hs, hS, q, tkX, fun es S1 zs H1 e r h1 q1 => ⟨es, S1, e, r, h1, q1⟩⟩) fun ws s2 ⟨zs, H2, I2, rz, es, S1, e, hz, hS1, q2⟩ => ⟨I2.kIn, ?_⟩) hpl
  rw [hks]
  exact fin_callK (n := 0) F hr hb hp hs tkX k (us := []) (vs := []) (ds := []) I2 .nil rz e .nil hz hS1 q2
theorem qe_callK {n : Nat} {perm : List Nat} {e : Expr} {rest : List Expr} (F : FnG X.prog X.w X.K X.mg X.base k f fd ps sp) (hr : GRoom k X.A) (hg : Gl X x) (hm : X.mg x = some (.ref f)) (hk : PySem.W.keepIn X.K (.ref f) = true) (hb : KB X.K fd ps n ks perm) (hp : n + ks.length = perm.length)
    (ha : QA X (e :: rest) ta) (hkw : QK X kws tk) (hall : (backToKw pos (keywordEach kws X.env)).all (·.1.isSome) = true) (hks : (backToKw pos (keywordEach kws X.env)).filterMap (·.1) = ks) (hdb : (x == ("__debug__" : Str)) = false)
    (he : starEach (e :: rest) X.env = (false, eval e X.env) :: starEach rest X.env)
    (hpl : ((backTo pos (starEach (e :: rest) X.env)).any (·.1) || (backToKw pos (keywordEach kws X.env)).any (·.1.isNone)) = false) :
    QE X (.Call (.Name x p) (e :: rest) kws pos) (rCallK sp n perm ta tk) := by
  refine ⟨fun pins s σ H Q I h => ?_⟩
  obtain ⟨σD, S, QE, R, hs, hS, q, tkX, k⟩ := h
  refine wpAny_Call_Name_kw (ld_glob I hg hm ?_ hdb)
  refine PySem.W.callWith_KW (h₀ := X.base) I.ok.mod.kin hk hall (thn (ha.run pos pins s σ H (fun vs H1 => ∃ ds S1, Ext H H1 ∧ DRs X.K H1 ds vs ∧ StoR X.K H1 S1 ∧ tk σD S1 (fun es S2 => ds.length = n ∧ n + es.length = perm.length ∧ sp (perm.filterMap fun i => (ds ++ es)[i]?) S2 QE (fun x S' => R x σD S')) R) I
    ⟨σD, S, _, R, hs, hS, q, tkX, fun ds S1 vs H1 e r h1 q1 => ⟨ds, S1, e, r, h1, q1⟩⟩) fun us s1 ⟨vs, H1, I1, r, ds, S1, e1, hd, hS1, q1⟩ => ?_) hpl he
  refine thn (hkw.run pos pins s1 σ H1 (fun zs H2 => ∃ es S2, Ext H1 H2 ∧ DRs X.K H2 es zs ∧ StoR X.K H2 S2 ∧ ds.length = n ∧ n + es.length = perm.length ∧ sp (perm.filterMap fun i => (ds ++ es)[i]?) S2 QE (fun x S' => R x σD S')) I1
    ⟨σD, S1, _, R, hs.ext e1, hS1, q1, tkX, fun es S2 zs H2 e r h1 q1 => ⟨es, S2, e, r, h1, q1⟩⟩) fun ws s2 ⟨zs, H2, I2, rz, es, S2, e2, hz, hS2, q2⟩ => ⟨I2.kIn, ?_⟩
  rw [hks]
  exact fin_callK F hr hb hp hs tkX k I2 r rz (e1.trans e2) (hd.ext e2) hz hS2 q2
end
/-! ### built-ins -/
def FitC (X : Cx) (f : List Dt → Sto → QD → Prop) (r : List V → Hp → VK → Prop) : Prop :=
  ∀ ds S QE vs H Q, DRs X.K H ds vs → StoR X.K H S → f ds S QE → (∀ d S' v' H', Ext H H' → DR X.K H' d v' → StoR X.K H' S' → QE d S' → Q v' H') → r vs H Q
def rBlt (f : List Dt → Sto → QD → Prop) (ta : RA) : RE := fun σ S Q R => ta σ S (fun ds S1 => f ds S1 Q) R
theorem lift_blt {X : Cx} {f : List Dt → Sto → QD → Prop} {r : List V → Hp → VK → Prop} {ta : RA} (hf : FitC X f r) {σ : L2.St} {H : Hp} {Q : VK} (h : liftE X (rBlt f ta) σ H Q) : tCB r (liftA X ta) σ H Q := by
  obtain ⟨σD, S, QE, R, hs, hS, q, tk, k⟩ := h
  exact ⟨σD, S, _, R, hs, hS, q, tk, fun ds S1 vs H1 e r h1 q1 => hf ds S1 QE vs H1 Q r h1 q1 fun d S' v' H' e2 => k d S' v' H' (e.trans e2)⟩
section
variable {X : Cx} {x : Str} {p pos : Pos} {e : Expr} {es : List Expr} {ta : RA} {id T : String} {r : List V → Hp → VK → Prop} {f : List Dt → Sto → QD → Prop}
theorem qe_bltB (hc : CallR X (.builtin id) r) (hf : FitC X f r) (hg : Gl X x) (hm : X.mg x = none) (hv : bootBuiltins x = some (.builtin id)) (ha : QA X (e :: es) ta) (hn : x ≠ "__name__") (hdb : (x == ("__debug__" : Str)) = false)
    (he : starEach (e :: es) X.env = (false, eval e X.env) :: starEach es X.env) (hpl : (backTo pos (starEach es X.env)).any (·.1) = false) : QE X (.Call (.Name x p) (e :: es) [] pos) (rBlt f ta) :=
  PE.weak (pe_callB hc hg hm hv ha hn hdb he hpl) fun σ H Q h => lift_blt hf h
theorem qe_bltT (hc : CallR X (.type T) r) (hf : FitC X f r) (hg : Gl X x) (hm : X.mg x = none) (hv : bootBuiltins x = some (.type T)) (ha : QA X (e :: es) ta) (hn : x ≠ "__name__") (hdb : (x == ("__debug__" : Str)) = false)
    (he : starEach (e :: es) X.env = (false, eval e X.env) :: starEach es X.env) (hpl : (backTo pos (starEach es X.env)).any (·.1) = false) : QE X (.Call (.Name x p) (e :: es) [] pos) (rBlt f ta) :=
  PE.weak (pe_callTy hc hg hm hv ha hn hdb he hpl) fun σ H Q h => lift_blt hf h
/-- list(reversed(e)) -/
def rLRev (te : RE) : RE := fun σ S Q R => te σ S (fun x S1 => ∃ a ds, x = .ref a ∧ lstOf S1 a = some ds ∧ ∀ p, S1 p = none → Q (.ref p) (put S1 p (.lst ds.reverse))) R
theorem qe_lrev {te : RE} {p1 p2 pos2 : Pos} (hc : X.calm = true) (hg : Gl X "list") (hm : X.mg "list" = none) (hgr : Gl X "reversed") (hmr : X.mg "reversed" = none) (he : QE X e te) (hs : starEach [e] X.env = (false, eval e X.env) :: starEach [] X.env) :
    QE X (.Call (.Name "list" p1) [.Call (.Name "reversed" p2) [e] [] pos2] [] pos) (rLRev te) := PE.weak (pe_lrev hc hg hm hgr hmr he hs) fun σ H Q h => by
  obtain ⟨σD, S, QE, R, hs, hS, q, tk, k⟩ := h
  refine ⟨σD, S, _, R, hs, hS, q, tk, fun d S1 v H1 e r h1 q1 => ?_⟩
  obtain ⟨a, ds, rfl, e1, q1⟩ := q1
  cases r
  obtain ⟨vs, hq, r⟩ := lstOf_ok h1 e1
  exact ⟨a, vs, rfl, hq, fun p hp => k _ _ _ _ (e.trans (Ext.new hp)) (.ref p) (h1.wr (.inr hp) r.rev) (q1 p (h1.fresh hp))⟩
def absD : List Dt → Sto → QD → Prop
  | [.int i], S, Q => Q (.int (if i < 0 then -i else i)) S
  | _, _, _ => False
def intD : List Dt → Sto → QD → Prop
  | [.int i], S, Q => Q (.int i) S
  | [.bl b], S, Q => Q (.int (if b then 1 else 0)) S
  | _, _, _ => False
def max2D : List Dt → Sto → QD → Prop
  | [.int i, .int j], S, Q => Q (.int (if j > i then j else i)) S
  | _, _, _ => False
def min2D : List Dt → Sto → QD → Prop
  | [.int i, .int j], S, Q => Q (.int (if j < i then j else i)) S
  | _, _, _ => False
def lenD : List Dt → Sto → QD → Prop
  | [.tup xs], S, Q => Q (.int (xs.length : Nat)) S
  | [.str x], S, Q => x.length ≤ sizeLine ∧ Q (.int (x.length : Nat)) S
  | [.ref a], S, Q => ∃ xs, lstOf S a = some xs ∧ Q (.int (xs.length : Nat)) S
  | _, _, _ => False
def listD : List Dt → Sto → QD → Prop
  | [.tup xs], S, Q => ∀ p, S p = none → Q (.ref p) (put S p (.lst xs))
  | [.ref a], S, Q => ∃ xs, lstOf S a = some xs ∧ ∀ p, S p = none → Q (.ref p) (put S p (.lst xs))
  | _, _, _ => False
def tupleD : List Dt → Sto → QD → Prop
  | [.tup xs], S, Q => Q (.tup xs) S
  | [.ref a], S, Q => ∃ xs, lstOf S a = some xs ∧ Q (.tup xs) S
  | _, _, _ => False
def allD : List Dt → Sto → QD → Prop
  | [.ref a], S, Q => ∃ bs : List Bool, lstOf S a = some (bs.map .bl) ∧ Q (.bl (bs.all _root_.id)) S
  | _, _, _ => False
def anyD : List Dt → Sto → QD → Prop
  | [.ref a], S, Q => ∃ bs : List Bool, lstOf S a = some (bs.map .bl) ∧ Q (.bl (bs.any _root_.id)) S
  | _, _, _ => False
theorem fit_abs : FitC X absD (fun xs H Q => ∃ i, xs = [.int i] ∧ Q (.int (if i < 0 then -i else i)) H) := by
  intro ds S QE vs H Q r hS h k
  match ds, r, h with
  | [.int i], .cons (.int _) .nil, h => exact ⟨i, rfl, k _ _ _ _ Ext.refl (.int _) hS h⟩
theorem fit_int : FitC X intD (fun xs H Q => (∃ i, xs = [.int i] ∧ Q (.int i) H) ∨ ∃ k, xs = [.bl k] ∧ Q (.int (if k then 1 else 0)) H) := by
  intro ds S QE vs H Q r hS h k
  match ds, r, h with
  | [.int i], .cons (.int _) .nil, h => exact .inl ⟨i, rfl, k _ _ _ _ Ext.refl (.int _) hS h⟩
  | [.bl b], .cons (.bl _) .nil, h => exact .inr ⟨b, rfl, k _ _ _ _ Ext.refl (.int _) hS h⟩
theorem fit_max2 : FitC X max2D (fun xs H Q => ∃ i j, xs = [.int i, .int j] ∧ Q (.int (if j > i then j else i)) H) := by
  intro ds S QE vs H Q r hS h k
  match ds, r, h with
  | [.int i, .int j], .cons (.int _) (.cons (.int _) .nil), h => exact ⟨i, j, rfl, k _ _ _ _ Ext.refl (.int _) hS h⟩
theorem fit_min2 : FitC X min2D (fun xs H Q => ∃ i j, xs = [.int i, .int j] ∧ Q (.int (if j < i then j else i)) H) := by
  intro ds S QE vs H Q r hS h k
  match ds, r, h with
  | [.int i, .int j], .cons (.int _) (.cons (.int _) .nil), h => exact ⟨i, j, rfl, k _ _ _ _ Ext.refl (.int _) hS h⟩
theorem fit_len : FitC X lenD (fun xs H Q => ∃ x n, xs = [x] ∧ LenV X.K x H n ∧ Q (.int n) H) := by
  intro ds S QE vs H Q r hS h k
  match ds, r, h with
  | [.tup xs], .cons (.tup hq rr) .nil, h => exact ⟨_, xs.length, rfl, .inr ⟨_, hq, rr.length⟩, k _ _ _ _ Ext.refl (.int _) hS h⟩
  | [.str x], .cons (.str _) .nil, h => exact ⟨_, x.length, rfl, ⟨h.1, rfl⟩, k _ _ _ _ Ext.refl (.int _) hS h.2⟩
  | [.ref a], .cons (.ref _) .nil, h =>
    obtain ⟨xs, e, q⟩ := h
    obtain ⟨vs, hq, rr⟩ := lstOf_ok hS e
    exact ⟨_, xs.length, rfl, .inl ⟨vs, hq, rr.length⟩, k _ _ _ _ Ext.refl (.int _) hS q⟩
theorem fit_list : FitC X listD (fun xs H Q => ∃ p ys, xs = [.ref p] ∧ (SqL X.K H p ys ∨ SqT X.K H p ys) ∧ ∀ l, H l = none → Q (.ref l) (upd H l (.lst ys))) := by
  intro ds S QE vs H Q r hS h k
  match ds, r, h with
  | [.tup xs], .cons (.tup hq rr) .nil, h => exact ⟨_, _, rfl, .inr hq, fun p hp => k _ _ _ _ (Ext.new hp) (.ref p) (hS.wr (.inr hp) rr) (h p (hS.fresh hp))⟩
  | [.ref a], .cons (.ref _) .nil, h =>
    obtain ⟨xs, e, q⟩ := h
    obtain ⟨vs, hq, rr⟩ := lstOf_ok hS e
    exact ⟨_, _, rfl, .inl hq, fun p hp => k _ _ _ _ (Ext.new hp) (.ref p) (hS.wr (.inr hp) rr) (q p (hS.fresh hp))⟩
theorem fit_tuple : FitC X tupleD (fun xs H Q => ∃ a ys, xs = [.ref a] ∧ ((SqL X.K H a ys ∧ ∀ l, H l = none → Q (.ref l) (upd H l (.tup ys))) ∨ (SqT X.K H a ys ∧ Q (.ref a) H))) := by
  intro ds S QE vs H Q r hS h k
  match ds, r, h with
  | [.tup xs], .cons (.tup hq rr) .nil, h => exact ⟨_, _, rfl, .inr ⟨hq, k _ _ _ _ Ext.refl (.tup hq rr) hS h⟩⟩
  | [.ref a], .cons (.ref _) .nil, h =>
    obtain ⟨xs, e, q⟩ := h
    obtain ⟨vs, hq, rr⟩ := lstOf_ok hS e
    exact ⟨_, _, rfl, .inl ⟨hq, fun p hp => k _ _ _ _ (Ext.new hp) (.tup (SqT.of upd_same) (DRs.ext (Ext.new hp) rr)) (hS.new hp) q⟩⟩
theorem drs_bls {K : PySem.W.Frag} {H : Hp} : ∀ {bs : List Bool} {vs : List V}, DRs K H (bs.map Dt.bl) vs → vs = bs.map V.bl
  | [], _, h => by cases h; rfl
  | n :: ns, _, h => by
    cases h with
    | cons a b => cases a; rw [drs_bls b]; rfl
theorem fit_all : FitC X allD (rAll X.K) := by
  intro ds S QE vs H Q r hS h k
  match ds, r, h with
  | [.ref a], .cons (.ref _) .nil, h =>
    obtain ⟨bs, e, q⟩ := h
    obtain ⟨vs, hq, rr⟩ := lstOf_ok hS e
    rw [drs_bls rr] at hq
    exact ⟨a, bs, rfl, hq, k _ _ _ _ Ext.refl (.bl _) hS q⟩
theorem fit_any : FitC X anyD (rAny X.K) := by
  intro ds S QE vs H Q r hS h k
  match ds, r, h with
  | [.ref a], .cons (.ref _) .nil, h =>
    obtain ⟨bs, e, q⟩ := h
    obtain ⟨vs, hq, rr⟩ := lstOf_ok hS e
    rw [drs_bls rr] at hq
    exact ⟨a, bs, rfl, hq, k _ _ _ _ Ext.refl (.bl _) hS q⟩
/-- repr -/
def reprR (S : Sto) (x : Dt) (z : Str) : Prop := ∃ p, DP S x p ∧ SeqAt.shaped p = true ∧ p.showable = true ∧ p.shown.length ≤ sizeLine ∧ z = p.shown
def reprD : List Dt → Sto → QD → Prop
  | [x], S, Q => ∃ z, reprR S x z ∧ Q (.str z) S
  | _, _, _ => False
def rRepr (K : PySem.W.Frag) : List V → Hp → VK → Prop := fun xs H Q => ∃ v p, xs = [v] ∧ Dp K H v p ∧ SeqAt.shaped p = true ∧ p.showable = true ∧ p.shown.length ≤ sizeLine ∧ Q (.str p.shown) H
theorem call_reprD {k : Nat} (hr : GRoom k X.A) : CallR X (.builtin "repr") (rRepr X.K) := by
  intro pins s σ H xs us Q I r h
  obtain ⟨v, p, rfl, hp, hsp, hsh, hl, q⟩ := h
  obtain ⟨u, rfl, ru⟩ := vals1 r
  have fin : ∀ {h' : Heap} {t : Tok} {tk : Nat}, (∀ b o, s.heap.get? b = some o → h'.get? b = some o) → EP X pins σ Q (.str p.shown t) { s with heap := h', toks := tk } := fun {h' t tk} k => ⟨.str p.shown, H, I.kept k, ⟨_, rfl⟩, q⟩
  have ref : ∀ a, u = .ref a → wpAny (model X.prog X.w) X.A (call (.builtin "repr") [u]) (EP X pins σ Q) X.xe s := by
    intro a e
    subst e
    obtain ⟨as, rd⟩ := Dp.reads I p v (.ref a) hp ru
    have hd := PyData.hasDict_of_canLay p (SeqAt.canLay_of_shaped hsp)
    have hu := hr.r.un
    have hdep := SeqAt.depth_of_shaped hsp
    exact repr_of_reads' rd hsh (PyData.noDict_hsm hd) hr.g (by omega) (fun _ _ e => e) (fun h' u tk k => fin k) hl
  cases hp with
  | non => cases ru; exact PySem.P.repr_of_none (fin (h' := s.heap) fun _ _ e => e)
  | bl b => cases ru; exact PySem.P.repr_of_bool (fin (h' := s.heap) fun _ _ e => e)
  | int i => obtain ⟨t, rfl⟩ := ru; exact PySem.P.repr_of_int (of_decide_eq_true hsh) (fin (h' := s.heap) fun _ _ e => e)
  | str x => obtain ⟨t, rfl⟩ := ru; exact PySem.P.repr_of_str (fin (h' := s.heap) fun _ _ e => e) hl
  | lst hs ha => cases ru; exact ref _ rfl
  | tup hs ha => cases ru; exact ref _ rfl
theorem fit_repr : FitC X reprD (rRepr X.K) := by
  intro ds S QE vs H Q r hS h k
  match ds, r, h with
  | [x], .cons rx .nil, h =>
    obtain ⟨z, ⟨p, h1, h2, h3, h4, rfl⟩, q⟩ := h
    exact ⟨_, p, rfl, h1.dp hS rx, h2, h3, h4, k _ _ _ _ Ext.refl (.str _) hS q⟩
/-- isinstance with a built-in class -/
def tyOf (S : Sto) : Dt → Option String
  | .non => some "NoneType"
  | .bl _ => some "bool"
  | .int _ => some "int"
  | .str _ => some "str"
  | .tup _ => some "tuple"
  | .ref a => (lstOf S a).map fun _ => "list"
  | .ty _ => none
  | .frl _ => none
def isiD : List Dt → Sto → QD → Prop
  | [x, .ty n], S, Q => ∃ t b, tyOf S x = some t ∧ kitB t n = some b ∧ Q (.bl b) S
  | _, _, _ => False
theorem fit_isi : FitC X isiD (rIsi X.K) := by
  intro ds S QE vs H Q r hS h k
  match ds, r, h with
  | [x, .ty n], .cons rx (.cons (.ty _) .nil), h =>
    obtain ⟨t, b, e1, e2, q⟩ := h
    have q' := k _ _ _ _ Ext.refl (.bl b) hS q
    refine ⟨_, .ty n, .type t, .type n, b, rfl, .ty n, ?_, kit_ty e2, q'⟩
    cases rx with
    | non => cases e1; exact .base .non
    | bl b => cases e1; exact .base (.bl b)
    | int i => cases e1; exact .base (.int i)
    | str x => cases e1; exact .base (.str x)
    | ref a =>
      have e1 : (lstOf S a).map (fun _ => "list") = some t := e1
      cases e3 : lstOf S a with
      | none => rw [e3] at e1; cases e1
      | some xs =>
        rw [e3] at e1
        cases e1
        obtain ⟨vs, h1, _⟩ := lstOf_rd hS e3
        rcases h1 with h1 | ⟨o, h1⟩
        · exact .base (.lst h1)
        · exact .base (.frz h1)
    | ty n => cases e1
    | frl hq r => cases e1
    | tup hq r =>
      cases e1
      rcases hq with (h1 | ⟨o, h1⟩) | ⟨o, its, n, h1, h2, _⟩
      · exact .base (.tup h1)
      · exact .fTuple h1
      · exact .kTuple h1 h2
end
end Ev

namespace Ev
open PySem PySem.Spec PyProof.Rows L2
/-! ### methods of lists -/
def rMeth (f : Dt → List Dt → Sto → QD → Prop) (to : RE) (ta : RA) : RE := fun σ S Q R => to σ S (fun x S1 => (∃ a xs, x = .ref a ∧ S1 a = some (.lst xs)) ∧ ta σ S1 (fun ds S2 => f x ds S2 Q) R) R
def rMeth0 (f : Dt → List Dt → Sto → QD → Prop) (to : RE) : RE := fun σ S Q R => to σ S (fun x S1 => (∃ a xs, x = .ref a ∧ S1 a = some (.lst xs)) ∧ f x [] S1 Q) R
def FitM (X : Cx) (f : Dt → List Dt → Sto → QD → Prop) (r : V → List V → Hp → VK → Prop) : Prop :=
  ∀ x ds S QE v vs H Q, DR X.K H x v → DRs X.K H ds vs → StoR X.K H S → f x ds S QE → (∀ d S' v' H', Ext H H' → DR X.K H' d v' → StoR X.K H' S' → QE d S' → Q v' H') → r v vs H Q
def appendD : Dt → List Dt → Sto → QD → Prop
  | .ref a, [y], S, Q => ∃ xs, S a = some (.lst xs) ∧ xs.length < sizeLine ∧ Q .non (put S a (.lst (xs ++ [y])))
  | _, _, _, _ => False
def extendD : Dt → List Dt → Sto → QD → Prop
  | .ref a, [.ref b], S, Q => ∃ xs ys, S a = some (.lst xs) ∧ S b = some (.lst ys) ∧ xs.length + ys.length ≤ sizeLine ∧ Q .non (put S a (.lst (xs ++ ys)))
  | _, _, _, _ => False
def popD : Dt → List Dt → Sto → QD → Prop
  | .ref a, [], S, Q => ∃ xs y, S a = some (.lst xs) ∧ xs[xs.length - 1]? = some y ∧ Q y (put S a (.lst xs.dropLast))
  | _, _, _, _ => False
section
variable {X : Cx} {o e : Expr} {es : List Expr} {to : RE} {ta : RA} {name : Str} {apos cpos : Pos} {id : String} {r : V → List V → Hp → VK → Prop} {f : Dt → List Dt → Sto → QD → Prop}
theorem tyV_lst {K : PySem.W.Frag} {H : Hp} {S : Sto} {x : Dt} {v : V} (r : DR K H x v) (hS : StoR K H S) (h : ∃ a xs, x = .ref a ∧ S a = some (.lst xs)) : tyV K "list" v H := by
  obtain ⟨a, xs, rfl, e⟩ := h
  cases r
  obtain ⟨vs, e1, _⟩ := hS a _ e
  exact .inl ⟨rfl, vs, SqL.of_lst e1⟩
theorem qe_meth0 (pa : PlainAttrs "list") (slot : Slot "list" name id) (hty : typeOf (.builtin id) = pure (.type "method_descriptor")) (hm : MtR X id r) (hf : FitM X f r) (ho : QE X o to)
    (hbase : attributeBase o name X.env (eval o X.env) = eval o X.env) (hline : (apos.endLine == cpos.line) = true) : QE X (.Call (.Attribute o name apos) [] [] cpos) (rMeth0 f to) :=
  PE.weak (pe_bm0 pa slot hty hm ho hbase hline) fun σ H Q h => by
    obtain ⟨σD, S, QE, R, hs, hS, q, tk, k⟩ := h
    refine ⟨σD, S, _, R, hs, hS, q, tk, fun d S1 v H1 e1 r1 h1 q1 => ?_⟩
    exact ⟨tyV_lst r1 h1 q1.1, hf d [] S1 QE v [] H1 Q r1 .nil h1 q1.2 fun d S' v' H' e2 => k d S' v' H' (e1.trans e2)⟩
theorem qe_meth (pa : PlainAttrs "list") (slot : Slot "list" name id) (hty : typeOf (.builtin id) = pure (.type "method_descriptor")) (hm : MtR X id r) (hf : FitM X f r) (ho : QE X o to) (ha : QA X (e :: es) ta)
    (hw : PE X (.Call (.Attribute o name apos) (e :: es) [] cpos) (tBM X.K "list" r (liftE X to) (liftA X ta))) : QE X (.Call (.Attribute o name apos) (e :: es) [] cpos) (rMeth f to ta) :=
  PE.weak hw fun σ H Q h => by
    obtain ⟨σD, S, QE, R, hs, hS, q, tk, k⟩ := h
    refine ⟨σD, S, _, R, hs, hS, q, tk, fun d S1 v H1 e1 r1 h1 q1 => ?_⟩
    refine ⟨tyV_lst r1 h1 q1.1, σD, S1, _, R, hs.ext e1, h1, q1.2, tk, fun ds S2 vs H2 e2 r2 h2 q2 => ?_⟩
    exact hf d ds S2 QE v vs H2 Q (r1.ext e2) r2 h2 q2 fun d S' v' H' e3 => k d S' v' H' (e1.trans (e2.trans e3))
theorem fit_append : FitM X appendD rAppend := by
  intro x ds S QE v vs H Q rx rd hS h k
  match x, ds, rx, rd, h with
  | .ref a, [y], .ref _, .cons ry .nil, h =>
    obtain ⟨xs, e, hl, q⟩ := h
    obtain ⟨us, e1, r⟩ := hS a _ e
    exact ⟨a, us, _, rfl, rfl, e1, by rw [← r.length]; exact hl, k _ _ _ _ (Ext.lst e1) .non (hS.wr (.inl ⟨_, e1⟩) (DRs.app r (.cons ry .nil))) q⟩
theorem fit_extend : FitM X extendD rExtend := by
  intro x ds S QE v vs H Q rx rd hS h k
  match x, ds, rx, rd, h with
  | .ref a, [.ref b], .ref _, .cons (.ref _) .nil, h =>
    obtain ⟨xs, ys, e, e2, hl, q⟩ := h
    obtain ⟨us, e1, r⟩ := hS a _ e
    obtain ⟨us2, e3, r2⟩ := hS b _ e2
    exact ⟨a, b, us, us2, rfl, rfl, e1, e3, by rw [← r.length, ← r2.length]; exact hl, k _ _ _ _ (Ext.lst e1) .non (hS.wr (.inl ⟨_, e1⟩) (DRs.app r r2)) q⟩
theorem fit_pop : FitM X popD rPop := by
  intro x ds S QE v vs H Q rx rd hS h k
  match x, ds, rx, rd, h with
  | .ref a, [], .ref _, .nil, h =>
    obtain ⟨xs, y, e, e2, q⟩ := h
    obtain ⟨us, e1, r⟩ := hS a _ e
    obtain ⟨u, h1, h2⟩ := r.get e2
    exact ⟨a, us, u, rfl, rfl, e1, by rw [← r.length]; exact h1, k _ _ _ _ (Ext.lst e1) (h2.ext (Ext.lst e1)) (hS.wr (.inl ⟨_, e1⟩) r.drl) q⟩
end
/-! ### comprehensions -/
def noX : XQ := fun _ _ _ => False
def wipeD (σ : Slo) : List Nat → Slo
  | [] => σ
  | v :: vs => (wipeD σ vs).set v none
theorem wipeD_ok {K : PySem.W.Frag} {H : Hp} {σD : Slo} {σ : List (Option V)} (h : SloR K H σD σ) : ∀ vs : List Nat, SloR K H (wipeD σD vs) (wipe σ vs)
  | [] => h
  | v :: vs => SloR.setNone (wipeD_ok h vs) v
theorem wipe_same {σ σ' : List (Option V)} {sl vs : List Nat} (h : Same sl σ σ') (hs : ∀ i ∈ sl, i ∈ vs) : wipe σ' vs = wipe σ vs := by
  refine List.ext_getElem? fun i => ?_
  by_cases hi : i ∈ vs
  · have l1 : (wipe σ' vs).length = (wipe σ vs).length := by rw [wipe_length, wipe_length]; exact h.1
    have g : ∀ (τ : List (Option V)) (ws : List Nat), i ∈ ws → i < τ.length → (wipe τ ws)[i]? = some none := by
      intro τ ws
      induction ws with
      | nil => intro h; cases h
      | cons v ws ih =>
        intro hm hl
        unfold wipe
        by_cases e : v = i
        · subst e
          rw [List.getElem?_set_self (by rw [wipe_length]; exact hl)]
        · rw [List.getElem?_set_ne e]
          rcases List.mem_cons.mp hm with q | q
          · exact absurd q.symm e
          · exact ih q hl
    by_cases hl : i < σ.length
    · rw [g σ' vs hi (by rw [h.1]; exact hl), g σ vs hi hl]
    · rw [List.getElem?_eq_none (by rw [wipe_length, h.1]; omega), List.getElem?_eq_none (by rw [wipe_length]; omega)]
  · rw [wipe_out hi, wipe_out hi]
    exact h.2 i (fun q => hi (hs i q))
/-- the turns of a comprehension: p the new list -/
def lcGo (t : Tg) (tt : RT) (te : RE) (G : Sto → Prop) (p : Addr) (σ : Slo) (E : Sto → Prop) : List Dt → Sto → Prop
  | [], S => G S ∧ E S
  | x :: xs, S => G S ∧ ∃ σ2, bindG t x σ = some σ2 ∧ tt σ2 S (fun b S3 => if b = true then te σ2 S3 (fun y S4 => ∃ acc, S4 p = some (.lst acc) ∧ acc.length < sizeLine ∧ lcGo t tt te G p σ E xs (put S4 p (.lst (acc ++ [y])))) noX
      else lcGo t tt te G p σ E xs S3) noX
def rLc (wi : RI) (t : Tg) (tt : RT) (te : RE) (vs : List Nat) : RE := fun σ S Q R => wi σ S (fun items G S1 => ∀ p, S1 p = none → lcGo t tt te G p (wipeD σ vs) (Q (.ref p)) items (put S1 p (.lst []))) R
abbrev liftTs (X : Cx) (t : RT) : TT := liftT X t
def QTs (X : Cx) (ifs : List Expr) (t : RT) : Prop := PTs X ifs (liftT X t)
def rYes : RT := fun _ S Q _ => Q true S
section
variable {X : Cx}
theorem PTs.weak {ifs : List Expr} {t t' : TT} (h : PTs X ifs t) (w : ∀ σ H Q, t' σ H Q → t σ H Q) : PTs X ifs t' := ⟨fun pins s σ H Q I q => h.run pins s σ H Q I (w σ H Q q)⟩
theorem qts_nil : QTs X [] rYes := PTs.weak pts_nil fun σ H Q ⟨σD, S, QE, R, hs, hS, q, tk, k⟩ => k _ _ _ Ext.refl hS q
theorem qts_one {c : Expr} {t : RT} (h : QT X c t) : QTs X [c] t := pts_one h
/-- a lift that is good in every context of the same K -/
def goT (K : PySem.W.Frag) (t : RT) : TT := fun σ H Q => ∃ σD S QE, SloR K H σD σ ∧ StoR K H S ∧ t σD S QE noX ∧ ∀ b S' H', Ext H H' → StoR K H' S' → QE b S' → Q b H'
def goE (K : PySem.W.Frag) (t : RE) : TE := fun σ H Q => ∃ σD S QE, SloR K H σD σ ∧ StoR K H S ∧ t σD S QE noX ∧ ∀ d S' v H', Ext H H' → DR K H' d v → StoR K H' S' → QE d S' → Q v H'
def goG (K : PySem.W.Frag) (t : Tg) : TG := fun v σ H Q => ∃ d σD σD', DR K H d v ∧ SloR K H σD σ ∧ bindG t d σD = some σD' ∧ ∀ σ', SloR K H σD' σ' → Same (slotsG t) σ σ' → Q σ' H
theorem to_goT {ifs : List Expr} {t : RT} (h : QTs X ifs t) : PTs X ifs (goT X.K t) := PTs.weak h fun σ H Q ⟨σD, S, QE, hs, hS, q, k⟩ => ⟨σD, S, QE, noX, hs, hS, q, TakesD.false, k⟩
theorem to_goE {e : Expr} {t : RE} (h : QE X e t) : PE X e (goE X.K t) := PE.weak h fun σ H Q ⟨σD, S, QE, hs, hS, q, k⟩ => ⟨σD, S, QE, noX, hs, hS, q, TakesD.false, k⟩
theorem lc_lift {wi : RI} {t : Tg} {tt : RT} {te : RE} {vs : List Nat} (hsl : ∀ i ∈ slotsG t, i ∈ vs) {σ : L2.St} {H : Hp} {Q : VK} (h : liftE X (rLc wi t tt te vs) σ H Q) : tLc (liftI X wi) (goG X.K t) (goT X.K tt) (goE X.K te) vs σ H Q := by
  obtain ⟨σD, S, QE, R, hs, hS, q, tk, k⟩ := h
  refine ⟨σD, S, _, R, hs, hS, q, tk, fun items G S1 H1 J e1 hS1 WD q1 => ?_⟩
  intro D hD
  have q2 := q1 D (hS1.fresh hD)
  refine ⟨fun i m H' => m = items.length - i ∧ i ≤ items.length ∧ ∃ S', Ext H1 H' ∧ StoR X.K H' S' ∧ lcGo t tt te G D (wipeD σD vs) (QE (.ref D)) (items.drop i) S', ⟨items.length, by simp, Nat.zero_le _, _, Ext.new hD, hS1.wr (.inr hD) .nil, q2⟩, ?_⟩
  rintro i m H' ⟨rfl, hi, S', e', hS', q'⟩
  by_cases hlt : i < items.length
  · rw [drop_cons hlt] at q'
    obtain ⟨g, σ2, eb, q3⟩ := q'
    refine .inr ⟨WD.goes i H' S' hlt e' hS' g, fun H3 => ∃ S3, Ext H1 H3 ∧ StoR X.K H3 S3 ∧ lcGo t tt te G D (wipeD σD vs) (QE (.ref D)) (items.drop (i + 1)) S3, fun H3 ⟨S3, h1, h2, h3⟩ => ⟨items.length - (i + 1), by omega, rfl, hlt, S3, h1, h2, h3⟩, fun x H2 y => ?_⟩
    obtain ⟨d, hd, e2, hS2, r2⟩ := WD.yields i H' S' x H2 hlt e' hS' g y
    have ed : d = items[i] := by simpa [hlt] using hd.symm
    subst ed
    have hs2 : SloR X.K H2 (wipeD σD vs) (wipe σ vs) := wipeD_ok (((hs.ext e1).ext e').ext e2) vs
    refine ⟨items[i], wipeD σD vs, σ2, r2, hs2, eb, fun σ3 hs3 sm => ⟨?_, ?_⟩⟩
    · have e0 := wipe_same sm hsl
      have ww : wipe (wipe σ vs) vs = wipe σ vs := by
        refine wipe_same (sl := vs) ⟨wipe_length _ _, fun i hi => ?_⟩ (fun i h => h) |>.trans ?_
        · exact wipe_out hi
        · rfl
      exact e0.trans ww
    · refine ⟨σ2, S', _, hs3, hS2, q3, fun b S3 H3 e3 hS3 q4 => ?_⟩
      cases b with
      | true =>
        rw [if_pos rfl] at q4 ⊢
        refine ⟨σ2, S3, _, hs3.ext e3, hS3, q4, fun y S4 v H4 e4 r4 hS4 q5 => ?_⟩
        obtain ⟨acc, ea, hl, q6⟩ := q5
        obtain ⟨us, eu, ru⟩ := hS4 D _ ea
        exact ⟨us, eu, by rw [← ru.length]; exact hl, _, (((e'.trans e2).trans e3).trans e4).trans (Ext.lst eu), hS4.wr (.inl ⟨_, eu⟩) (DRs.app ru (.cons r4 .nil)), q6⟩
      | false =>
        rw [if_neg Bool.false_ne_true] at q4 ⊢
        exact ⟨S3, (e'.trans e2).trans e3, hS3, q4⟩
  · have e : i = items.length := by omega
    subst e
    rw [List.drop_length] at q'
    obtain ⟨g, q2⟩ := q'
    exact .inl ⟨WD.stops H' S' e' hS' g, k _ _ _ _ (e1.trans e') (.ref D) hS' q2⟩
variable {elt tg iter : Expr} {ifs : List Expr} {scope : Scope} {own : List (Str × Nat)} {pos : Pos} {wi : RI} {t : Tg} {tt : RT} {te : RE}
theorem qe_lc (hc : X.calm = true) (hN : X.N.Nodup) (hi : QI X tg iter wi) (ok : BlkOk X.N X.env.scope scope own) (hsl : ∀ i ∈ slotsG t, i ∈ own.map (·.2))
    (hb : ∀ (s : Shared) (H : Hp) (C : Addr) (cl : List (Str × Addr)) (fp : List Addr), QG (X.blk s H scope (compEnvC scope cl C X.env) fp) tg t ∧ QTs (X.blk s H scope (compEnvC scope cl C X.env) fp) ifs tt ∧ QE (X.blk s H scope (compEnvC scope cl C X.env) fp) elt te)
    (hs : ∀ x, foldedSetIterable iter X.env x = pure x) : QE X (.ListComp elt [⟨tg, iter, ifs, 0⟩] scope pos) (rLc wi t tt te (own.map (·.2))) :=
  PE.weak (pe_lc (g := goG X.K t) (tt := goT X.K tt) (te := goE X.K te) hc hN hi ok (fun s H C cl fp => (hb s H C cl fp).1) (fun s H C cl fp => to_goT (hb s H C cl fp).2.1) (fun s H C cl fp => to_goE (hb s H C cl fp).2.2) hs) fun σ H Q h => lc_lift hsl h
theorem qs_setLc {i : Nat} {y : Str} {py spos : Pos} (hc : X.calm = true) (hN : X.N.Nodup) (hy : X.N[i]? = some y) (hyl : X.env.scope.names.lookup y = some .local)
    (hsw : swapsWith (.ListComp elt [⟨tg, iter, ifs, 0⟩] scope pos) (some (.Name y py)) spos.line X.env = pure true) (hi : QI X tg iter wi) (ok : BlkOk X.N X.env.scope scope own) (hsl : ∀ i ∈ slotsG t, i ∈ own.map (·.2))
    (hb : ∀ (s : Shared) (H : Hp) (C : Addr) (cl : List (Str × Addr)) (fp : List Addr), QG (X.blk s H scope (compEnvC scope cl C X.env) fp) tg t ∧ QTs (X.blk s H scope (compEnvC scope cl C X.env) fp) ifs tt ∧ QE (X.blk s H scope (compEnvC scope cl C X.env) fp) elt te)
    (hs : ∀ x, foldedSetIterable iter X.env x = pure x) : QS X (.Assign [.Name y py] (.ListComp elt [⟨tg, iter, ifs, 0⟩] scope pos) spos) (rsAsg (rLc wi t tt te (own.map (·.2))) (.nm i)) :=
  PS.weak (ps_setLc (g := goG X.K t) (tt := goT X.K tt) (te := goE X.K te) hc hN hy hyl hsw hi ok (fun s H C cl fp => (hb s H C cl fp).1) (fun s H C cl fp => to_goT (hb s H C cl fp).2.1) (fun s H C cl fp => to_goE (hb s H C cl fp).2.2) hs) fun D σ H ⟨σD, S, DD, hs, hS, q, o⟩ => by
    refine lc_lift hsl ⟨σD, S, _, DD.ex, hs, hS, q, o.ex, fun d S' v H' e r hS' ⟨σ2, e2, q'⟩ => ?_⟩
    have e3 : some (σD.set i (some d)) = some σ2 := by rw [← e2]; simp only [bindG]
    cases e3
    exact o.nx _ _ _ _ e ((hs.ext e).set r i) hS' q'
/-- the block's context is good too -/
theorem Good.blk {k : Nat} {b : Bool} (g : Good X k b) (hk : scope.kind = .function) (s : Shared) (H : Hp) (C : Addr) (cl : List (Str × Addr)) (fp : List Addr) : Good (X.blk s H scope (compEnvC scope cl C X.env) fp) k false :=
  ⟨g.nd, g.calm, g.room, PassesOwn.never, hk, fun h => by cases h⟩
theorem blk_scope (scope : Scope) (cl : List (Str × Addr)) (C : Addr) : (compEnvC scope cl C X.env).scope = relS scope X.env.scope := rfl
end
end Ev

namespace Ev
open PySem PySem.Spec PyProof.Rows L2
/-! ### side conditions by cases -/
def nst : Expr → Bool
  | .Starred .. => false
  | _ => true
def nsl : Expr → Bool
  | .Slice .. => false
  | _ => true
def nCall : Expr → Bool
  | .Call .. => false
  | _ => true
def nset : Expr → Bool
  | .Set .. => false
  | _ => true
def ncomp : Expr → Bool
  | .ListComp .. => false
  | .SetComp .. => false
  | .DictComp .. => false
  | _ => true
def dfltT : Expr → Bool
  | .UnaryOp .Not _ _ => false
  | .BoolOp .. => false
  | .IfExp .. => false
  | .Compare .. => false
  | _ => true
theorem star_cons {e : Expr} {es : List Expr} {env : Env} (h : nst e = true) : starEach (e :: es) env = (false, eval e env) :: starEach es env := by
  cases e <;> first | rfl | cases h
theorem star_any {env : Env} {pos : Pos} : ∀ {es : List Expr}, es.all nst = true → (backTo pos (starEach es env)).any (·.1) = false
  | [], _ => rfl
  | e :: es, h => by
    have h1 : nst e = true ∧ es.all nst = true := by simpa using h
    rw [star_cons h1.1]
    show (false || (backTo pos (starEach es env)).any (·.1)) = false
    rw [star_any h1.2] <;> rfl
theorem star_len {env : Env} : ∀ {es : List Expr}, (starEach es env).length = es.length
  | [] => rfl
  | e :: es => by
    have ih := star_len (env := env) (es := es)
    cases e <;> simp [starEach, ih]
theorem star_all {env : Env} {pos : Pos} : ∀ {es : List Expr}, es.all nst = true → (backTo pos (starEach es env)).all (fun x => !x.1) = true
  | [], _ => rfl
  | e :: es, h => by
    have h1 : nst e = true ∧ es.all nst = true := by simpa using h
    rw [star_cons h1.1]
    show (!false && (backTo pos (starEach es env)).all (fun x => !x.1)) = true
    rw [star_all h1.2] <;> rfl
theorem asgE_cons {e : Expr} {es : List Expr} {env : Env} (h : nst e = true) : assignEach (e :: es) env = (false, assign e env) :: assignEach es env := by
  cases e <;> first | rfl | cases h
theorem asgE_len {env : Env} : ∀ {es : List Expr}, es.all nst = true → (assignEach es env).length = es.length
  | [], _ => rfl
  | e :: es, h => by
    have h1 : nst e = true ∧ es.all nst = true := by simpa using h
    rw [asgE_cons h1.1, List.length_cons, asgE_len h1.2, List.length_cons]
theorem asgE_none {env : Env} : ∀ {es : List Expr}, es.all nst = true → (assignEach es env).findIdx? (·.1) = none
  | [], _ => rfl
  | e :: es, h => by
    have h1 : nst e = true ∧ es.all nst = true := by simpa using h
    rw [asgE_cons h1.1, List.findIdx?_cons, asgE_none h1.2]
    rfl
theorem plainIx_of {b : Expr} (h : nsl b = true) : PlainIx b := fun o i => by
  cases b <;> first | rfl | cases h
theorem asg_sub {o i : Expr} {tpos : Pos} {env : Env} (h : nsl i = true) : ∀ v, assign (.Subscript o i tpos) env v = (do
      let ov ← holding [v] (eval o env)
      let iv ← holding [v, ov] (eval i env)
      standAt tpos
      holding [v, ov, iv] (setItem ov iv v)
      release [v, ov, iv] []) := fun v => by
  cases i <;> first | rfl | cases h
theorem base_of {o : Expr} {name : Str} {env : Env} (h : nCall o = true) : attributeBase o name env (eval o env) = eval o env := by
  cases o <;> first | rfl | cases h
theorem fold_of {e : Expr} {env : Env} (h : nset e = true) : ∀ x, foldedSetIterable e env x = pure x := fun x => by
  cases e <;> first | rfl | cases h
theorem swap_none {e : Expr} {t : Option Expr} {n : Nat} {env : Env} (h : ncomp e = true) : swapsWith e t n env = pure false := by
  cases e <;> first | rfl | cases h
theorem isTrue_of {e : Expr} {env : Env} (h : dfltT e = true) : ∀ whole, isTrue e env whole = (do let v ← whole; standAt e.pos; holding [v] (truthy v)) := fun whole => by
  cases e with
  | UnaryOp op a p => cases op <;> first | rfl | cases h
  | BoolOp => cases h
  | IfExp => cases h
  | Compare => cases h
  | _ => rfl
theorem notIn_marks {op : CmpOp} {b : Expr} (h : op ≠ .In ∧ op ≠ .NotIn) : behindInMarks op b = false := by
  cases b with
  | Set es k p =>
    cases op <;> first | (simp [behindInMarks]; done) | exact absurd rfl h.1 | exact absurd rfl h.2 | (simp [behindInMarks]; intros; rfl)
  | _ => rfl
def posKw (kws : List Keyword) : Bool := kws.all (·.arg.isSome)
theorem kw_all {env : Env} {pos : Pos} : ∀ {kws : List Keyword}, posKw kws = true → (backToKw pos (keywordEach kws env)).all (·.1.isSome) = true
  | [], _ => rfl
  | ⟨nm, e, p⟩ :: r, h => by
    have h1 : nm.isSome = true ∧ posKw r = true := by simpa [posKw] using h
    show (nm.isSome && (backToKw pos (keywordEach r env)).all (·.1.isSome)) = true
    rw [h1.1, kw_all h1.2] <;> rfl
theorem kw_names {env : Env} {pos : Pos} : ∀ {kws : List Keyword}, (backToKw pos (keywordEach kws env)).filterMap (·.1) = kws.filterMap (·.arg)
  | [] => rfl
  | ⟨nm, e, p⟩ :: r => by
    cases nm with
    | none => exact kw_names (kws := r)
    | some x =>
      show x :: (backToKw pos (keywordEach r env)).filterMap (·.1) = x :: r.filterMap (·.arg)
      rw [kw_names (kws := r)]
theorem kw_any {env : Env} {pos : Pos} : ∀ {kws : List Keyword}, posKw kws = true → (backToKw pos (keywordEach kws env)).any (·.1.isNone) = false
  | [], _ => rfl
  | ⟨nm, e, p⟩ :: r, h => by
    have h1 : nm.isSome = true ∧ posKw r = true := by simpa [posKw] using h
    show (nm.isNone || (backToKw pos (keywordEach r env)).any (·.1.isNone)) = false
    rw [kw_any h1.2]
    cases nm with
    | none => cases h1.1
    | some x => rfl
/-! ### the swapped stores, by the scope -/
def swNames (sc : Scope) (line : Nat) : List Expr → List Str
  | [] => []
  | .Name id pos :: r => if (sc.names.lookup id == some .local && pos.line == line) = true then id :: swNames sc line r else swNames sc line r
  | _ :: r => swNames sc line r
def swB (sc : Scope) (ts vs : List Expr) : Option (Option (List Str)) :=
  if (!(ts.length == 2 || ts.length == 3) || vs.length != ts.length) = true then some none
  else if (vs.any fun | .Starred .. => true | _ => false) = true then some none
  else if ((swNames sc ((ts.head?.map (·.pos.line)).getD 0) ts).length != ts.length || (swNames sc ((ts.head?.map (·.pos.line)).getD 0) ts).eraseDups.length != (swNames sc ((ts.head?.map (·.pos.line)).getD 0) ts).length) = true then some none
  else if vs.all (foldedForSure 8) = true then some none
  else if vs.all (constantsAlone 8) = true then none
  else some (some (swNames sc ((ts.head?.map (·.pos.line)).getD 0) ts))
def swS (sc : Scope) (targets : List Expr) (value : Expr) : Option (Option (List Str)) :=
  match targets, value with
    | [.Tuple ts _ _], .Tuple vs _ _ => swB sc ts vs
    | [.List _ _], _ => none
    | _, _ => some none
theorem swNames_eq {env : Env} {line : Nat} : ∀ {ts : List Expr}, (ts.filterMap fun | .Name id pos => if env.kindOf id == some .local && pos.line == line then some id else none | _ => none) = swNames env.scope line ts
  | [] => rfl
  | e :: r => by
    have ih := swNames_eq (env := env) (line := line) (ts := r)
    cases e <;> try exact ih
    case Name id pos =>
      show List.filterMap _ (_ :: _) = (if (env.scope.names.lookup id == some .local && pos.line == line) = true then id :: swNames env.scope line r else swNames env.scope line r)
      by_cases h : (env.scope.names.lookup id == some .local && pos.line == line) = true
      · rw [if_pos h, List.filterMap_cons_some (b := id) (by show (if (env.kindOf id == some .local && pos.line == line) = true then some id else none) = some id; exact if_pos h), ih]
      · rw [if_neg h, List.filterMap_cons_none (by show (if (env.kindOf id == some .local && pos.line == line) = true then some id else none) = none; exact if_neg h), ih]
theorem swapped_tup {env : Env} {ts vs : List Expr} {k k2 : Nat} {p p2 : Pos} {r : Option (List Str)} (hk : env.scope.kind = .function) (h : swB env.scope ts vs = some r) : swappedStores [.Tuple ts k p] (.Tuple vs k2 p2) env = pure r := by
  have hb : (env.blockKind != .function) = false := by unfold Env.blockKind; rw [hk]; rfl
  unfold swB at h
  unfold swappedStores
  simp only [hb, Bool.or_false]
  generalize hL : List.filterMap _ ts = L
  have hL2 : L = swNames env.scope ((ts.head?.map (·.pos.line)).getD 0) ts := hL.symm.trans swNames_eq
  subst hL2
  split at h
  · rename_i c; cases h; exact if_pos c
  · rename_i c; refine (if_neg c).trans ?_
    split at h
    · rename_i c; cases h; exact if_pos c
    · rename_i c; refine (if_neg c).trans ?_
      split at h
      · rename_i c; cases h; exact if_pos c
      · rename_i c; refine (if_neg c).trans ?_
        split at h
        · rename_i c; cases h; exact if_pos c
        · rename_i c; refine (if_neg c).trans ?_
          split at h
          · cases h
          · rename_i c; cases h; exact if_neg c
theorem swapped_of {env : Env} {t : Expr} {value : Expr} {r : Option (List Str)} (hk : env.scope.kind = .function) (h : swS env.scope [t] value = some r) : swappedStores [t] value env = pure r := by
  cases t with
  | Tuple ts k p =>
    cases value with
    | Tuple vs k2 p2 => exact swapped_tup hk h
    | _ => cases h; rfl
  | List ts p => cases h
  | _ => cases h; rfl
end Ev

namespace Ev
open PySem PySem.Spec PyProof.Rows L2
/-! ### the compiler: syntax to readings -/
/-- what a global name stands for: a def (level, parameters, keyword patterns, promise), a constant, a built-in -/
inductive GV where
  | fn (j : Nat) (ps : List Str) (kw : List (Nat × List Str)) (sp : SpD)
  | con (d : Dt)
  | free
structure CG where
  G : List (Str × GV)
  N : List Str
  sc : Scope
  top : Bool
  k : Nat
def ixOf : List Str → Str → Nat → Option Nat
  | [], _, _ => none
  | y :: r, x, i => if y == x then some i else ixOf r x (i + 1)
def own2 (x : Str) : Bool := x == "__debug__" || x == "__classdict__" || x == "__name__"
def CG.var (c : CG) (x : Str) : Option Nat := if own2 x = true then none else match c.sc.names.lookup x with
  | some .local => ixOf c.N x 0
  | some .cell => ixOf c.N x 0
  | some .free => ixOf c.N x 0
  | _ => none
def CG.lslot (c : CG) (x : Str) : Option Nat := match c.sc.names.lookup x with
  | some .local => ixOf c.N x 0
  | some .cell => if c.top = true then ixOf c.N x 0 else none
  | _ => none
def CG.glob (c : CG) (x : Str) : Option GV := if own2 x = true then none else match c.sc.names.lookup x with
  | some .globalImplicit => c.G.lookup x
  | _ => none
abbrev F2 := Dt → Dt → Sto → QD → Prop
def binF : Operator → Option F2
  | .Add => some addD
  | .Sub => some subD
  | .Mult => some mulD
  | .FloorDiv => some fdivD
  | .Mod => some modD
  | .Pow => some powD
  | _ => none
def cmpF : CmpOp → Option F2
  | .Lt => some (cmpD fun i j => decide (i < j))
  | .LtE => some (cmpD fun i j => decide (i ≤ j))
  | .Gt => some (cmpD fun i j => decide (j < i))
  | .GtE => some (cmpD fun i j => decide (j ≤ i))
  | .Eq => some eqD
  | .NotEq => some neD
  | .Is => some isD
  | .IsNot => some isnD
  | _ => none
def iaddD : F2
  | .int i, .int j, S, Q => Q (.int (i + j)) S
  | _, _, _, _ => False
def augF : Operator → Option F2
  | .Add => some iaddD
  | .Sub => some subD
  | _ => none
def tyF (x : Str) : Option String :=
  if x == "int" then some "int" else if x == "bool" then some "bool" else if x == "tuple" then some "tuple" else if x == "list" then some "list" else if x == "str" then some "str" else none
abbrev FC := List Dt → Sto → QD → Prop
def bltF (x : Str) (n : Nat) : Option FC :=
  if x == "len" && n == 1 then some lenD else if x == "int" && n == 1 then some intD else if x == "abs" && n == 1 then some absD else if x == "tuple" && n == 1 then some tupleD
  else if x == "list" && n == 1 then some listD else if x == "isinstance" && n == 2 then some isiD else if x == "repr" && n == 1 then some reprD else if x == "all" && n == 1 then some allD
  else if x == "any" && n == 1 then some anyD else if x == "max" && n == 2 then some max2D else if x == "min" && n == 2 then some min2D else none
abbrev FM := Dt → List Dt → Sto → QD → Prop
def mth0 (x : Str) : Option FM := if x == "pop" then some popD else none
def mth1 (x : Str) : Option FM := if x == "append" then some appendD else if x == "extend" then some extendD else none
def ownOf (N : List Str) : List (Str × NameKind) → List (Str × Nat)
  | [] => []
  | (x, .local) :: r => match ixOf N x 0 with | some i => (x, i) :: ownOf N r | none => ownOf N r
  | (x, .cell) :: r => match ixOf N x 0 with | some i => (x, i) :: ownOf N r | none => ownOf N r
  | _ :: r => ownOf N r
def permGo (n : Nat) (ks : List Str) : List Str → Nat → Option (List Nat)
  | [], _ => some []
  | p :: r, i => if i < n then (permGo n ks r (i + 1)).map (i :: ·) else (ixOf ks p n).bind fun j => (permGo n ks r (i + 1)).map (j :: ·)
def permOf (ps : List Str) (n : Nat) (ks : List Str) : Option (List Nat) := permGo n ks ps 0
def isFree : Option GV → Bool
  | some .free => true
  | _ => false
def CG.blk (c : CG) (scope : Scope) : CG := { c with sc := relS scope c.sc, top := false }
def lrevOf (c : CG) (x : Str) : List Expr → Option Expr
  | [.Call (.Name y _) [e] [] _] => if (x == "list" && y == "reversed" && nst e && isFree (c.glob y)) = true then some e else none
  | _ => none
mutual
def cE : Nat → CG → Expr → Option RE
  | 0, _, _ => none
  | n + 1, c, .Name x _ => match c.var x with
    | some i => some (rVar i)
    | none => match c.glob x with
      | some (.con d) => some (rC d)
      | some .free => (tyF x).map fun T => rC (.ty T)
      | _ => none
  | n + 1, c, .Constant k _ _ => match k with
    | .none => some (rC .non)
    | .bool b => some (rC (.bl b))
    | .int i => some (rC (.int i))
    | .str s => some (rC (.str s))
    | _ => none
  | n + 1, c, .BinOp a op b _ => (binF op).bind fun f => (cE n c a).bind fun ta => (cE n c b).map fun tb => rBin f ta tb
  | n + 1, c, .Compare a [op] [b] _ => (cmpF op).bind fun f => (cE n c a).bind fun ta => (cE n c b).map fun tb => rBin f ta tb
  | n + 1, c, .Compare a [op, op'] [b, b'] _ => (cmpF op).bind fun f => (cmpF op').bind fun f' => (cE n c a).bind fun ta => (cE n c b).bind fun tb => (cE n c b').map fun tc => rChain f f' ta tb tc
  | n + 1, c, .UnaryOp .USub a _ => (cE n c a).map rNeg
  | n + 1, c, .UnaryOp .Not a _ => (cE n c a).map rNotV
  | n + 1, c, .BoolOp op es p => cB n c op es p
  | n + 1, c, .IfExp t a b _ => (cT n c t).bind fun tt => (cE n c a).bind fun ta => (cE n c b).map fun tb => rIf tt ta tb
  | n + 1, c, .Tuple es _ _ => (cA n c es).map rTup
  | n + 1, c, .List es _ => (cA n c es).map rLst
  | n + 1, c, .Subscript a (.Slice lo hi none _) _ => (cE n c a).bind fun ta => (cO n c lo).bind fun tl => (cO n c hi).map fun th => rSl ta tl th
  | n + 1, c, .Subscript a i _ => if nsl i = true then (cE n c a).bind fun ta => (cE n c i).map fun ti => rBin ixD ta ti else none
  | n + 1, c, .Call (.Name x _) args kws _ => match c.glob x with
    | some (.fn j ps kw sp) => if j ≤ c.k then
        (if kws.isEmpty = true then (cA n c args).map (rCall sp) else
          if posKw kws = true ∧ (args.length, kws.filterMap (·.arg)) ∈ kw then (permOf ps args.length (kws.filterMap (·.arg))).bind fun perm =>
            if args.length + (kws.filterMap (·.arg)).length = perm.length then (cA n c args).bind fun ta => (cK n c kws).map fun tk => rCallK sp args.length perm ta tk else none
          else none)
      else none
    | some .free => if kws.isEmpty = true then cBl n c x args else none
    | _ => none
  | n + 1, c, .Call (.Attribute o name apos) args [] pos => if (nCall o && (apos.endLine == pos.line)) = true then match args with
      | [] => (mth0 name).bind fun f => (cE n c o).map fun to => rMeth0 f to
      | [a] => (mth1 name).bind fun f => (cE n c o).bind fun to => (cA n c [a]).map fun ta => rMeth f to ta
      | _ => none
    else none
  | n + 1, c, .ListComp elt [⟨tg, iter, ifs, 0⟩] scope _ =>
    if (nset iter && blkC c.N c.sc scope (ownOf c.N scope.names)) = true then
      (cI n c tg iter).bind fun wi => (cG n (c.blk scope) tg).bind fun t => (cTs n (c.blk scope) ifs).bind fun tt => (cE n (c.blk scope) elt).bind fun te =>
        if ((slotsG t).all fun i => ((ownOf c.N scope.names).map (·.2)).contains i) = true then some (rLc wi t tt te ((ownOf c.N scope.names).map (·.2))) else none
    else none
  | _, _, _ => none
def cBl : Nat → CG → Str → List Expr → Option RE
  | 0, _, _, _ => none
  | n + 1, c, x, args => match lrevOf c x args with
    | some e => (cE n c e).map rLRev
    | none => if args.isEmpty = true then none else (bltF x args.length).bind fun f => (cA n c args).map fun ta => rBlt f ta
def cT : Nat → CG → Expr → Option RT
  | 0, _, _ => none
  | n + 1, c, .UnaryOp .Not a _ => (cT n c a).map rNot
  | n + 1, c, .BoolOp op es p => cW n c op es p
  | n + 1, c, .Compare a [op] [b] _ => (cmpF op).bind fun f => (cE n c a).bind fun ta => (cE n c b).map fun tb => rTest (rBin f ta tb)
  | n + 1, c, .Compare a [op, op'] [b, b'] _ => (cmpF op).bind fun f => (cmpF op').bind fun f' => (cE n c a).bind fun ta => (cE n c b).bind fun tb => (cE n c b').map fun tc => rTest (rChain f f' ta tb tc)
  | n + 1, c, e => if dfltT e = true then (cE n c e).map rTru else none
def cW : Nat → CG → BoolOp → List Expr → Pos → Option RT
  | 0, _, _, _, _ => none
  | n + 1, c, _, [a], _ => cT n c a
  | n + 1, c, .And, a :: b :: r, p => (cT n c a).bind fun ta => (cW n c .And (b :: r) p).map fun tb => rAnd ta tb
  | n + 1, c, .Or, a :: b :: r, p => (cT n c a).bind fun ta => (cW n c .Or (b :: r) p).map fun tb => rOr ta tb
  | _, _, _, _, _ => none
def cB : Nat → CG → BoolOp → List Expr → Pos → Option RE
  | 0, _, _, _, _ => none
  | n + 1, c, _, [a], _ => cE n c a
  | n + 1, c, .And, a :: b :: r, p => (cE n c a).bind fun ta => (cB n c .And (b :: r) p).map fun tb => rAndV ta tb
  | n + 1, c, .Or, a :: b :: r, p => (cE n c a).bind fun ta => (cB n c .Or (b :: r) p).map fun tb => rOrV ta tb
  | _, _, _, _, _ => none
def cA : Nat → CG → List Expr → Option RA
  | 0, _, _ => none
  | n + 1, c, [] => some rNil
  | n + 1, c, e :: r => if (e :: r).all nst = true then (cE n c e).bind fun te => (cA n c r).map fun t => rCons te t else none
def cK : Nat → CG → List Keyword → Option RA
  | 0, _, _ => none
  | n + 1, c, [] => some rNil
  | n + 1, c, ⟨_, e, _⟩ :: r => (cE n c e).bind fun te => (cK n c r).map fun t => rCons te t
def cO : Nat → CG → Option Expr → Option RO
  | 0, _, _ => none
  | n + 1, c, none => some rNone
  | n + 1, c, some e => (cE n c e).map rSome
def cTs : Nat → CG → List Expr → Option RT
  | 0, _, _ => none
  | n + 1, c, [] => some rYes
  | n + 1, c, [e] => cT n c e
  | _, _, _ => none
def cI : Nat → CG → Expr → Expr → Option RI
  | 0, _, _, _ => none
  | n + 1, c, tg, .Call (.Name x p) [e] [] p2 =>
    if isFree (c.glob x) = true then
      if nst e = true then
        if x == "enumerate" then match tg with
          | .Tuple _ _ _ => (cE n c e).map wEnum
          | _ => none
        else if x == "reversed" then (cE n c e).map wRev
        else if x == "range" then (cA n c [e]).map wRng1
        else (cE n c (.Call (.Name x p) [e] [] p2)).map wSeq
      else none
    else (cE n c (.Call (.Name x p) [e] [] p2)).map wSeq
  | n + 1, c, tg, .Call (.Name x p) [a, b] [] p2 =>
    if isFree (c.glob x) = true then
      if (x == "range" && nst a && nst b) = true then (cA n c [a, b]).map wRng2 else none
    else (cE n c (.Call (.Name x p) [a, b] [] p2)).map wSeq
  | n + 1, c, tg, e => (cE n c e).map wSeq
def cG : Nat → CG → Expr → Option Tg
  | 0, _, _ => none
  | n + 1, c, .Name x _ => (c.lslot x).map .nm
  | n + 1, c, .Tuple es _ _ => if es.all nst = true then (cGs n c es).map .tup else none
  | _, _, _ => none
def cGs : Nat → CG → List Expr → Option (List Tg)
  | 0, _, _ => none
  | n + 1, c, [] => some []
  | n + 1, c, e :: r => (cG n c e).bind fun t => (cGs n c r).map fun ts => t :: ts
def cS : Nat → CG → Stmt → Option RS
  | 0, _, _ => none
  | n + 1, c, .Pass _ => some rsNext
  | n + 1, c, .Break _ => some rsBreak
  | n + 1, c, .Continue _ => some rsCont
  | n + 1, c, .Raise _ _ _ => some rsNever
  | n + 1, c, .Expr e _ => if ncomp e = true then (cE n c e).map rsDrop else none
  | n + 1, c, .Return none _ => some rsRetN
  | n + 1, c, .Return (some e) _ => (cE n c e).map rsRet
  | n + 1, c, .If t a b _ => (cT n c t).bind fun tt => (cSs n c a).bind fun ta => (cSs n c b).map fun tb => rsIf tt ta tb
  | n + 1, c, .While t a [] _ => (cT n c t).bind fun tt => (cSs n c a).map fun ta => rsWhile tt ta
  | n + 1, c, .For tg iter a [] _ => if nset iter = true then (cI n c tg iter).bind fun wi => (cG n c tg).bind fun t => (cSs n c a).map fun ta => rsFor wi t ta else none
  | n + 1, c, .AugAssign (.Name x _) op e _ => (c.lslot x).bind fun i => (augF op).bind fun f => (cE n c e).map fun te => rsAug i f te
  | n + 1, c, .Assign [.Name x _] e _ => (c.lslot x).bind fun i => (cE n c e).map fun te => rsAsg te (.nm i)
  | n + 1, c, .Assign [.Subscript o i tp] e _ => if (nsl i && ncomp e) = true then (cE n c e).bind fun te => (cE n c o).bind fun to => (cE n c i).map fun ti => rsSet te to ti else none
  | n + 1, c, .Assign [.Tuple ts k tp] e _ => if ncomp e = true then match swS c.sc [.Tuple ts k tp] e with
      | none => none
      | some none => (cE n c e).bind fun te => (cG n c (.Tuple ts k tp)).map fun t => rsAsg te t
      | some (some names) => match ts, e with
        | [.Name x _, .Name y _], .Tuple [a, b] _ _ => if names = [x, y] ∧ c.sc.names.lookup x = some .local ∧ c.sc.names.lookup y = some .local then
            (ixOf c.N x 0).bind fun i => (ixOf c.N y 0).bind fun j => if i ≠ j then (cA n c [a, b]).map fun ta => rsPar i j ta else none else none
        | [.Name x _, .Name y _, .Name z _], .Tuple [a, b, d] _ _ => if names = [x, y, z] ∧ c.sc.names.lookup x = some .local ∧ c.sc.names.lookup y = some .local ∧ c.sc.names.lookup z = some .local then
            (ixOf c.N x 0).bind fun i => (ixOf c.N y 0).bind fun j => (ixOf c.N z 0).bind fun l => if i ≠ j ∧ i ≠ l ∧ j ≠ l then (cA n c [a, b, d]).map fun ta => rsPar3 i j l ta else none else none
        | _, _ => none
    else none
  | _, _, _ => none
def cSs : Nat → CG → List Stmt → Option RS
  | 0, _, _ => none
  | n + 1, c, [] => some rsNext
  | n + 1, c, [s] => cS n c s
  | n + 1, c, s :: s2 :: r => (cS n c s).bind fun t => (cSs n c (s2 :: r)).map fun u => rsSeq t u
end
end Ev

namespace Ev
open PySem PySem.Spec PyProof.Rows L2
/-! ### the compiler is right -/
def GvOk (X : Cx) (x : Str) : GV → Prop
  | .fn j ps kw sp => ∃ f fd, FnG X.prog X.w X.K X.mg X.base j f fd ps sp ∧ X.mg x = some (.ref f) ∧ PySem.W.keepIn X.K (.ref f) = true ∧ Binds X.K fd ps [] ∧ ∀ n ks perm, (n, ks) ∈ kw → permOf ps n ks = some perm → KB X.K fd ps n ks perm
  | .con d => ∃ u v, X.mg x = some u ∧ L2.RelV v u ∧ ∀ H, DR X.K H d v
  | .free => X.mg x = none
structure Ctx (X : Cx) (c : CG) : Prop where
  g : Good X c.k c.top
  N : X.N = c.N
  sc : X.env.scope = c.sc
  G : ∀ x v, c.G.lookup x = some v → GvOk X x v
theorem ixOf_ok : ∀ {N : List Str} {x : Str} {i j : Nat}, ixOf N x i = some j → ∃ k, j = i + k ∧ N[k]? = some x
  | [], _, _, _, h => by simp [ixOf] at h
  | y :: r, x, i, j, h => by
    unfold ixOf at h
    split at h
    · rename_i c
      cases h
      exact ⟨0, rfl, by simpa using c⟩
    · obtain ⟨k, e, h2⟩ := ixOf_ok h
      exact ⟨k + 1, by omega, by simpa using h2⟩
theorem ix0 {N : List Str} {x : Str} {j : Nat} (h : ixOf N x 0 = some j) : N[j]? = some x := by
  obtain ⟨k, e, h2⟩ := ixOf_ok h
  rw [Nat.zero_add] at e
  rw [e]; exact h2
theorem own2_no {x : Str} (h : ¬ own2 x = true) : (x == ("__debug__" : Str)) = false ∧ (x == ("__classdict__" : Str)) = false ∧ x ≠ ("__name__" : Str) := by
  unfold own2 at h
  simp only [Bool.or_eq_true, not_or, Bool.not_eq_true] at h
  exact ⟨h.1.1, h.1.2, by simpa using h.2⟩
section
variable {X : Cx} {c : CG} {x : Str} {i : Nat}
theorem var_ok (C : Ctx X c) (h : c.var x = some i) : (x == ("__debug__" : Str)) = false ∧ (x == ("__classdict__" : Str)) = false ∧ X.N[i]? = some x ∧ Vis X.env.scope x := by
  unfold CG.var at h
  split at h
  · cases h
  · rename_i o
    have o := own2_no o
    refine ⟨o.1, o.2.1, ?_⟩
    rw [C.N]
    unfold Vis
    rw [C.sc]
    split at h
    · rename_i e; exact ⟨ix0 h, .inl e⟩
    · rename_i e; exact ⟨ix0 h, .inr (.inl e)⟩
    · rename_i e; exact ⟨ix0 h, .inr (.inr e)⟩
    · cases h
theorem lslot_ok (C : Ctx X c) (h : c.lslot x = some i) : X.N[i]? = some x ∧ Loc X.env.scope x ∧ (X.fn x = true ∨ X.env.scope.names.lookup x = some .local) := by
  unfold CG.lslot at h
  rw [C.N]
  unfold L2.Loc
  rw [C.sc]
  split at h
  · rename_i e; exact ⟨ix0 h, .inl e, .inr e⟩
  · rename_i e
    split at h
    · rename_i t; exact ⟨ix0 h, .inr e, .inl (C.g.fn t x)⟩
    · cases h
  · cases h
theorem glob_ok {v : GV} (C : Ctx X c) (h : c.glob x = some v) : (x == ("__debug__" : Str)) = false ∧ x ≠ ("__name__" : Str) ∧ Gl X x ∧ GvOk X x v := by
  unfold CG.glob at h
  split at h
  · cases h
  · rename_i o
    have o := own2_no o
    split at h
    · rename_i e
      refine ⟨o.1, o.2.2, ?_, C.G x v h⟩
      show X.env.scope.names.lookup x = some .globalImplicit
      rw [C.sc]; exact e
    · cases h
theorem free_ok (C : Ctx X c) (h : c.glob x = some .free) : (x == ("__debug__" : Str)) = false ∧ x ≠ ("__name__" : Str) ∧ Gl X x ∧ X.mg x = none := glob_ok C h
theorem binF_ok {op : Operator} {f : F2} (h : binF op = some f) : ∃ r, OpR X (binaryOp op) r ∧ FitR X f r := by
  cases op <;> cases h
  · exact ⟨_, or_add, fit_add⟩
  · exact ⟨_, op_sub, fit_sub⟩
  · exact ⟨_, or_mul, fit_mul⟩
  · exact ⟨_, op_mod, fit_mod⟩
  · exact ⟨_, op_pow, fit_pow⟩
  · exact ⟨_, op_fdivW, fit_fdiv⟩
theorem cmpF_ok {op : CmpOp} {f : F2} {k : Nat} {b : Bool} (g : Good X k b) (h : cmpF op = some f) : (∃ r, OpR X (compareOp op) r ∧ FitR X f r) ∧ op ≠ .In ∧ op ≠ .NotIn := by
  have hu : X.A.units + 64 < cLine := by have := g.room.r.un; omega
  cases op <;> cases h
  · exact ⟨⟨_, op_eq.or (op_eqD hu), fit_eq⟩, by decide, by decide⟩
  · exact ⟨⟨_, op_ne.or (op_neD hu), fit_ne⟩, by decide, by decide⟩
  · exact ⟨⟨_, op_lt, fit_cmp⟩, by decide, by decide⟩
  · exact ⟨⟨_, op_le, fit_cmp⟩, by decide, by decide⟩
  · exact ⟨⟨_, op_gt, fit_cmp⟩, by decide, by decide⟩
  · exact ⟨⟨_, op_ge, fit_cmp⟩, by decide, by decide⟩
  · exact ⟨⟨_, op_isN, fit_is⟩, by decide, by decide⟩
  · exact ⟨⟨_, op_notN, fit_isn⟩, by decide, by decide⟩
theorem fit_iadd : FitR X iaddD (rI0 fun i j => .int (i + j)) := by
  intro x y S QE v u H Q rx ry hS h k
  cases rx <;> cases ry <;> first | exact False.elim h | skip
  exact ⟨_, _, rfl, rfl, k _ _ _ _ Ext.refl (.int _) hS h⟩
theorem augF_ok {op : Operator} {f : F2} (h : augF op = some f) : ∃ r, OpR X (inplaceOp op) r ∧ FitR X f r := by
  cases op <;> cases h
  · exact ⟨_, iop_add, fit_iadd⟩
  · exact ⟨_, iop_sub, fit_sub⟩
theorem bltF_ok {n k : Nat} {b : Bool} {f : FC} (g : Good X k b) (h : bltF x n = some f) : (∃ id r, bootBuiltins x = some (.builtin id) ∧ CallR X (.builtin id) r ∧ FitC X f r) ∨ ∃ T r, bootBuiltins x = some (.type T) ∧ CallR X (.type T) r ∧ FitC X f r := by
  have sp : ∀ {y : Str}, (x == y && n == 1) = true → x = y := fun h => eq_of_beq ((Bool.and_eq_true _ _).mp h).1
  have sp2 : ∀ {y : Str}, (x == y && n == 2) = true → x = y := fun h => eq_of_beq ((Bool.and_eq_true _ _).mp h).1
  unfold bltF at h
  split at h
  · rename_i c; cases h; rw [sp c]; exact .inl ⟨_, _, boot_len, call_len, fit_len⟩
  split at h
  · rename_i c; cases h; rw [sp c]; exact .inr ⟨_, _, by decide +kernel, call_int1, fit_int⟩
  split at h
  · rename_i c; cases h; rw [sp c]; exact .inl ⟨_, _, boot_abs, call_abs, fit_abs⟩
  split at h
  · rename_i c; cases h; rw [sp c]; exact .inr ⟨_, _, by decide +kernel, call_tuple_of, fit_tuple⟩
  split at h
  · rename_i c; cases h; rw [sp c]; exact .inr ⟨_, _, by decide +kernel, call_list_of, fit_list⟩
  split at h
  · rename_i c; cases h; rw [sp2 c]; exact .inl ⟨_, _, by decide +kernel, call_isi, fit_isi⟩
  split at h
  · rename_i c; cases h; rw [sp c]; exact .inl ⟨_, _, by decide +kernel, call_reprD g.room, fit_repr⟩
  split at h
  · rename_i c; cases h; rw [sp c]; exact .inl ⟨_, _, by decide +kernel, cr_all g.calm, fit_all⟩
  split at h
  · rename_i c; cases h; rw [sp c]; exact .inl ⟨_, _, by decide +kernel, cr_any g.calm, fit_any⟩
  split at h
  · rename_i c; cases h; rw [sp2 c]; exact .inl ⟨_, _, by decide +kernel, call_max2 g.calm, fit_max2⟩
  split at h
  · rename_i c; cases h; rw [sp2 c]; exact .inl ⟨_, _, by decide +kernel, call_min2 g.calm, fit_min2⟩
  cases h
theorem tyF_ok {T : String} (h : tyF x = some T) : bootBuiltins x = some (.type T) := by
  have sp : ∀ {y : Str}, (x == y) = true → x = y := fun h => by simpa using h
  unfold tyF at h
  split at h
  · rename_i c; cases h; rw [sp c]; decide +kernel
  split at h
  · rename_i c; cases h; rw [sp c]; decide +kernel
  split at h
  · rename_i c; cases h; rw [sp c]; decide +kernel
  split at h
  · rename_i c; cases h; rw [sp c]; decide +kernel
  split at h
  · rename_i c; cases h; rw [sp c]; decide +kernel
  cases h
theorem qe_mth0 {f : FM} {o : Expr} {to : RE} {apos cpos : Pos} (h : mth0 x = some f) (ho : QE X o to) (hc : nCall o = true) (hl : (apos.endLine == cpos.line) = true) : QE X (.Call (.Attribute o x apos) [] [] cpos) (rMeth0 f to) := by
  unfold mth0 at h
  split at h
  · rename_i c
    cases h
    have e : x = ("pop" : Str) := by simpa using c
    subst e
    exact qe_meth0 PySem.F.plainAttrs_list PySem.F.slot_list_pop PySem.F.type_list_pop mt_pop fit_pop ho (base_of hc) hl
  · cases h
theorem qe_mth1 {f : FM} {o a : Expr} {to : RE} {ta : RA} {apos cpos : Pos} (h : mth1 x = some f) (ho : QE X o to) (ha : QA X [a] ta) (hn : nst a = true) (hc : nCall o = true) (hl : (apos.endLine == cpos.line) = true) : QE X (.Call (.Attribute o x apos) [a] [] cpos) (rMeth f to ta) := by
  have s1 : starEach [a] X.env = (false, eval a X.env) :: starEach [] X.env := star_cons hn
  have few : ((backTo cpos (starEach [a] X.env)).all (fun x => !x.1) && (backToKw cpos (keywordEach [] X.env)).all (fun x => x.1.isSome)
      && decide (([a] : List Expr).length + ([] : List Keyword).length + (if ([] : List Keyword).isEmpty then 0 else 1) < 30)) = true := by rw [s1]; rfl
  unfold mth1 at h
  split at h
  · rename_i c
    cases h
    have e : x = ("append" : Str) := by simpa using c
    subst e
    exact qe_meth PySem.F.plainAttrs_list PySem.F.slot_list_append PySem.F.type_list_append mt_append fit_append ho ha (pe_bm PySem.F.plainAttrs_list PySem.F.slot_list_append PySem.F.type_list_append mt_append ho ha (base_of hc) few hl s1 rfl)
  split at h
  · rename_i c
    cases h
    have e : x = ("extend" : Str) := by simpa using c
    subst e
    exact qe_meth PySem.F.plainAttrs_list PySem.F.slot_list_extend PySem.F.type_list_extend mt_extend fit_extend ho ha (pe_bm PySem.F.plainAttrs_list PySem.F.slot_list_extend PySem.F.type_list_extend mt_extend ho ha (base_of hc) few hl s1 rfl)
  · cases h
theorem lookup_none {α β : Type} [BEq α] [LawfulBEq α] {x : α} : ∀ {l : List (α × β)}, l.lookup x = none → x ∉ l.map (·.1)
  | [], _ => by simp
  | (a, b) :: l, h => by
    rw [List.lookup_cons] at h
    split at h
    · cases h
    · rename_i hne
      have := lookup_none h
      simp only [List.map_cons, List.mem_cons, not_or]
      exact ⟨by simpa using hne, this⟩
/-- the context of a comprehension's block -/
theorem Ctx.blk (C : Ctx X c) {scope : Scope} (hk : scope.kind = .function) (s : Shared) (H : Hp) (Ca : Addr) (cl : List (Str × Addr)) (fp : List Addr) : Ctx (X.blk s H scope (compEnvC scope cl Ca X.env) fp) (c.blk scope) where
  g := C.g.blk hk s H Ca cl fp
  N := C.N
  sc := by
    show relS scope X.env.scope = relS scope c.sc
    rw [C.sc]
  G := fun x v h => by
    have := C.G x v h
    cases v <;> exact this
/-- all of it at fuel n -/
structure Snd (n : Nat) : Prop where
  E : ∀ {c e t X}, Ctx X c → cE n c e = some t → QE X e t
  Bl : ∀ {c x args t X p pos}, Ctx X c → c.glob x = some .free → cBl n c x args = some t → QE X (.Call (.Name x p) args [] pos) t
  T : ∀ {c e t X}, Ctx X c → cT n c e = some t → QT X e t
  W : ∀ {c op es p t X}, Ctx X c → cW n c op es p = some t → QW X (.BoolOp op es p) t
  B : ∀ {c op es p t X}, Ctx X c → cB n c op es p = some t → QE X (.BoolOp op es p) t
  A : ∀ {c es t X}, Ctx X c → cA n c es = some t → QA X es t ∧ es.all nst = true
  K : ∀ {c kws t X}, Ctx X c → cK n c kws = some t → QK X kws t
  O : ∀ {c e t X}, Ctx X c → cO n c e = some t → QO X e t
  Ts : ∀ {c es t X}, Ctx X c → cTs n c es = some t → QTs X es t
  I : ∀ {c tg e t X}, Ctx X c → cI n c tg e = some t → QI X tg e t
  G : ∀ {c e t X}, Ctx X c → cG n c e = some t → QG X e t
  Gs : ∀ {c es t X}, Ctx X c → cGs n c es = some t → QGs X es t ∧ t.length = es.length
  S : ∀ {c s t X}, Ctx X c → cS n c s = some t → QS X s t
  Ss : ∀ {c s t X}, Ctx X c → cSs n c s = some t → QSs X s t
theorem snd0 : Snd 0 := by
  constructor <;> intros <;> rename_i h <;> first | (simp only [cE] at h; cases h; done) | (simp only [cBl] at h; cases h; done) | (simp only [cT] at h; cases h; done) | (simp only [cW] at h; cases h; done) | (simp only [cB] at h; cases h; done) | (simp only [cA] at h; cases h; done) | (simp only [cK] at h; cases h; done) | (simp only [cO] at h; cases h; done) | (simp only [cTs] at h; cases h; done) | (simp only [cI] at h; cases h; done) | (simp only [cG] at h; cases h; done) | (simp only [cGs] at h; cases h; done) | (simp only [cS] at h; cases h; done) | (simp only [cSs] at h; cases h; done)
end
end Ev

namespace Ev
open PySem PySem.Spec PyProof.Rows L2
section
variable {X : Cx} {c : CG} {n : Nat}
theorem isFree_ok {o : Option GV} (h : isFree o = true) : o = some .free := by
  match o, h with
  | some .free, _ => rfl
theorem conj2 {a b : Bool} (h : (a && b) = true) : a = true ∧ b = true := by simpa using h
theorem snd_A (ih : Snd n) (C : Ctx X c) : ∀ {es : List Expr} {t : RA}, cA (n + 1) c es = some t → QA X es t ∧ es.all nst = true
  | [], t, h => by simp only [cA] at h; cases h; exact ⟨qa_nil, rfl⟩
  | e :: r, t, h => by
    simp only [cA] at h
    split at h
    · rename_i hn
      simp only [Option.bind_eq_some_iff, Option.map_eq_some_iff] at h
      obtain ⟨te, h1, ts, h2, rfl⟩ := h
      have q := conj2 (a := nst e) (b := r.all nst) (by simpa using hn)
      exact ⟨qa_cons (ih.E C h1) (ih.A C h2).1 (star_cons q.1), hn⟩
    · cases h
theorem snd_K (ih : Snd n) (C : Ctx X c) : ∀ {es : List Keyword} {t : RA}, cK (n + 1) c es = some t → QK X es t
  | [], t, h => by simp only [cK] at h; cases h; exact qk_nil
  | ⟨nm, e, p⟩ :: r, t, h => by
    simp only [cK, Option.bind_eq_some_iff, Option.map_eq_some_iff] at h
    obtain ⟨te, h1, ts, h2, rfl⟩ := h
    exact qk_cons (ih.E C h1) (ih.K C h2)
theorem snd_O (ih : Snd n) (C : Ctx X c) : ∀ {e : Option Expr} {t : RO}, cO (n + 1) c e = some t → QO X e t
  | none, t, h => by simp only [cO] at h; cases h; exact qo_none
  | some e, t, h => by
    simp only [cO, Option.map_eq_some_iff] at h
    obtain ⟨te, h1, rfl⟩ := h
    exact qo_some (ih.E C h1)
theorem snd_Ts (ih : Snd n) (C : Ctx X c) : ∀ {es : List Expr} {t : RT}, cTs (n + 1) c es = some t → QTs X es t
  | [], t, h => by simp only [cTs] at h; cases h; exact qts_nil
  | [e], t, h => by simp only [cTs] at h; exact qts_one (ih.T C h)
  | _ :: _ :: _, t, h => by simp only [cTs] at h; cases h
theorem snd_G (ih : Snd n) (C : Ctx X c) {e : Expr} {t : Tg} (h : cG (n + 1) c e = some t) : QG X e t := by
  cases e <;> simp only [cG] at h <;> first | (cases h; done) | skip
  case Name x p =>
    simp only [Option.map_eq_some_iff] at h
    obtain ⟨i, h1, rfl⟩ := h
    obtain ⟨a, b, d⟩ := lslot_ok C h1
    exact qg_name C.g.nd a b d
  case Tuple es k p =>
    split at h
    · rename_i hn
      simp only [Option.map_eq_some_iff] at h
      obtain ⟨ts, h1, rfl⟩ := h
      obtain ⟨q, l⟩ := ih.Gs C h1
      exact qg_tup C.g.calm q (asgE_len hn) l (asgE_none hn)
    · cases h
theorem snd_Gs (ih : Snd n) (C : Ctx X c) : ∀ {es : List Expr} {t : List Tg}, cGs (n + 1) c es = some t → QGs X es t ∧ t.length = es.length
  | [], t, h => by simp only [cGs] at h; cases h; exact ⟨qgs_nil, rfl⟩
  | e :: r, t, h => by
    simp only [cGs, Option.bind_eq_some_iff, Option.map_eq_some_iff] at h
    obtain ⟨te, h1, ts, h2, rfl⟩ := h
    obtain ⟨q, l⟩ := ih.Gs C h2
    have ne : nst e = true := by
      cases n with
      | zero => simp only [cG] at h1; cases h1
      | succ m => cases e <;> first | rfl | (simp only [cG] at h1; cases h1)
    exact ⟨qgs_cons (ih.G C h1) q (by rw [asgE_cons ne]; rfl), by simp [l]⟩
theorem snd_W (ih : Snd n) (C : Ctx X c) {op : BoolOp} {es : List Expr} {p : Pos} {t : RT} (h : cW (n + 1) c op es p = some t) : QW X (.BoolOp op es p) t := by
  match op, es, h with
  | .And, [], h => simp only [cW] at h; cases h
  | .Or, [], h => simp only [cW] at h; cases h
  | .And, [a], h => simp only [cW] at h; exact qw_and1 (ih.T C h)
  | .Or, [a], h => simp only [cW] at h; exact qw_or1 (ih.T C h)
  | .And, a :: b :: r, h =>
    simp only [cW, Option.bind_eq_some_iff, Option.map_eq_some_iff] at h
    obtain ⟨te, h1, ts, h2, rfl⟩ := h
    exact qw_and (ih.T C h1) (ih.W C h2)
  | .Or, a :: b :: r, h =>
    simp only [cW, Option.bind_eq_some_iff, Option.map_eq_some_iff] at h
    obtain ⟨te, h1, ts, h2, rfl⟩ := h
    exact qw_or (ih.T C h1) (ih.W C h2)
theorem snd_B (ih : Snd n) (C : Ctx X c) {op : BoolOp} {es : List Expr} {p : Pos} {t : RE} (h : cB (n + 1) c op es p = some t) : QE X (.BoolOp op es p) t := by
  match op, es, h with
  | .And, [], h => simp only [cB] at h; cases h
  | .Or, [], h => simp only [cB] at h; cases h
  | .And, [a], h => simp only [cB] at h; exact qe_one (ih.E C h)
  | .Or, [a], h => simp only [cB] at h; exact qe_one (ih.E C h)
  | .And, a :: b :: r, h =>
    simp only [cB, Option.bind_eq_some_iff, Option.map_eq_some_iff] at h
    obtain ⟨te, h1, ts, h2, rfl⟩ := h
    exact qe_and (ih.E C h1) (ih.B C h2)
  | .Or, a :: b :: r, h =>
    simp only [cB, Option.bind_eq_some_iff, Option.map_eq_some_iff] at h
    obtain ⟨te, h1, ts, h2, rfl⟩ := h
    exact qe_or (ih.E C h1) (ih.B C h2)
theorem chain_marks {op op' : CmpOp} {b d : Expr} (h : op' ≠ .In ∧ op' ≠ .NotIn) : lastMarks [op, op'] [b, d] = false := notIn_marks h
theorem snd_T (ih : Snd n) (C : Ctx X c) {e : Expr} {t : RT} (h : cT (n + 1) c e = some t) : QT X e t := by
  have df : dfltT e = true → (cE n c e).map rTru = some t → QT X e t := fun hd h => by
    simp only [Option.map_eq_some_iff] at h
    obtain ⟨te, h1, rfl⟩ := h
    exact qt_tru (ih.E C h1) (isTrue_of hd)
  cases e with
  | UnaryOp op a p =>
    cases op with
    | Not =>
      simp only [cT, Option.map_eq_some_iff] at h
      obtain ⟨te, h1, rfl⟩ := h
      exact qt_not (ih.T C h1)
    | _ => exact df rfl (by simpa [cT, dfltT] using h)
  | BoolOp op es p => simp only [cT] at h; exact qw_pt (ih.W C h)
  | IfExp => simp [cT, dfltT] at h
  | Compare a ops bs p =>
    match ops, bs, h with
    | [op], [b], h =>
      simp only [cT, Option.bind_eq_some_iff, Option.map_eq_some_iff] at h
      obtain ⟨f, hf, ta, h1, tb, h2, rfl⟩ := h
      obtain ⟨⟨r, o, ft⟩, nm⟩ := cmpF_ok (X := X) C.g hf
      exact qt_cmp o ft (ih.E C h1) (ih.E C h2) (notIn_marks nm)
    | [op, op'], [b, b'], h =>
      simp only [cT, Option.bind_eq_some_iff, Option.map_eq_some_iff] at h
      obtain ⟨f, hf, f', hf', ta, h1, tb, h2, tc, h3, rfl⟩ := h
      obtain ⟨⟨r, o, ft⟩, nm⟩ := cmpF_ok (X := X) C.g hf
      obtain ⟨⟨r', o', ft'⟩, nm'⟩ := cmpF_ok (X := X) C.g hf'
      exact qt_chain o o' ft ft' (ih.E C h1) (ih.E C h2) (ih.E C h3) (chain_marks nm')
    | [], _, h => simp [cT, dfltT] at h
    | [_], [], h => simp [cT, dfltT] at h
    | [_], _ :: _ :: _, h => simp [cT, dfltT] at h
    | [_, _], [], h => simp [cT, dfltT] at h
    | [_, _], [_], h => simp [cT, dfltT] at h
    | [_, _], _ :: _ :: _ :: _, h => simp [cT, dfltT] at h
    | _ :: _ :: _ :: _, _, h => simp [cT, dfltT] at h
  | _ => exact df rfl (by simpa [cT, dfltT] using h)
theorem snd_Bl (ih : Snd n) (C : Ctx X c) {x : Str} {args : List Expr} {t : RE} {p pos : Pos} (hx : c.glob x = some .free) (h : cBl (n + 1) c x args = some t) : QE X (.Call (.Name x p) args [] pos) t := by
  obtain ⟨o1, o2, hg, hm⟩ := free_ok C hx
  have gen : (if args.isEmpty = true then none else (bltF x args.length).bind fun f => (cA n c args).map fun ta => rBlt f ta) = some t → QE X (.Call (.Name x p) args [] pos) t := fun h => by
    split at h
    · cases h
    · rename_i ne
      simp only [Option.bind_eq_some_iff, Option.map_eq_some_iff] at h
      obtain ⟨f, hf, ta, h1, rfl⟩ := h
      obtain ⟨qa, hn⟩ := ih.A C h1
      match args, ne, hf, qa, hn with
      | e :: es, _, hf, qa, hn =>
        have q := conj2 (a := nst e) (b := es.all nst) (by simpa using hn)
        rcases bltF_ok (X := X) C.g hf with ⟨id, r, hb, hc, ft⟩ | ⟨T, r, hb, hc, ft⟩
        · exact qe_bltB hc ft hg hm hb qa o2 o1 (star_cons q.1) (star_any q.2)
        · exact qe_bltT hc ft hg hm hb qa o2 o1 (star_cons q.1) (star_any q.2)
  simp only [cBl] at h
  split at h
  · rename_i e he
    simp only [Option.map_eq_some_iff] at h
    obtain ⟨te, h1, rfl⟩ := h
    unfold lrevOf at he
    split at he
    · rename_i y p1 e' p2
      split at he
      · rename_i hc
        cases he
        simp only [Bool.and_eq_true] at hc
        obtain ⟨⟨⟨a1, a2⟩, a3⟩, a4⟩ := hc
        have e1 : x = ("list" : Str) := eq_of_beq a1
        have e2 : y = ("reversed" : Str) := eq_of_beq a2
        subst e1 e2
        obtain ⟨_, _, hg2, hm2⟩ := free_ok C (isFree_ok a4)
        exact qe_lrev C.g.calm hg hm hg2 hm2 (ih.E C h1) (star_cons a3)
      · cases he
    · cases he
  · exact gen h
end
end Ev

namespace Ev
open PySem PySem.Spec PyProof.Rows L2
section
variable {X : Cx} {c : CG} {n : Nat}
theorem snd_I (ih : Snd n) (C : Ctx X c) {tg e : Expr} {t : RI} (h : cI (n + 1) c tg e = some t) : QI X tg e t := by
  have df : (cE n c e).map wSeq = some t → QI X tg e t := fun h => by
    simp only [Option.map_eq_some_iff] at h
    obtain ⟨te, h1, rfl⟩ := h
    exact qi_seq (ih.E C h1)
  unfold cI at h
  split at h
  · rename_i e2; cases e2
  · rename_i _ _ _ m x p e p2 hm1
    cases hm1
    split at h
    · rename_i fr
      obtain ⟨o1, o2, hg, hm⟩ := free_ok C (isFree_ok fr)
      split at h
      · rename_i ne
        split at h
        · rename_i c1
          have e1 : x = ("enumerate" : Str) := eq_of_beq c1
          subst e1
          split at h
          · simp only [Option.map_eq_some_iff] at h
            obtain ⟨te, h1, rfl⟩ := h
            exact qi_enum (ih.E C h1) hg hm (star_cons ne)
          · cases h
        split at h
        · rename_i c1
          have e1 : x = ("reversed" : Str) := eq_of_beq c1
          subst e1
          simp only [Option.map_eq_some_iff] at h
          obtain ⟨te, h1, rfl⟩ := h
          exact qi_rev (ih.E C h1) hg hm (star_cons ne)
        split at h
        · rename_i c1
          have e1 : x = ("range" : Str) := eq_of_beq c1
          subst e1
          simp only [Option.map_eq_some_iff] at h
          obtain ⟨te, h1, rfl⟩ := h
          exact qi_rng1 (ih.A C h1).1 hg hm (star_cons ne)
        exact df h
      · cases h
    · exact df h
  · rename_i _ _ _ m x p a b p2 hm1
    cases hm1
    split at h
    · rename_i fr
      obtain ⟨o1, o2, hg, hm⟩ := free_ok C (isFree_ok fr)
      split at h
      · rename_i cc
        simp only [Bool.and_eq_true] at cc
        obtain ⟨⟨c1, n1⟩, n2⟩ := cc
        have e1 : x = ("range" : Str) := eq_of_beq c1
        subst e1
        simp only [Option.map_eq_some_iff] at h
        obtain ⟨te, h1, rfl⟩ := h
        have s2 : starEach [b] X.env = [(false, eval b X.env)] := star_cons n2
        exact qi_rng2 (ih.A C h1).1 hg hm (by rw [star_cons n1, s2]) s2
      · cases h
    · exact df h
  · rename_i hn _ _
    cases hn
    exact df h
theorem contains_mem {l : List Nat} {i : Nat} (h : l.contains i = true) : i ∈ l := by simpa using h
theorem lc_parts (ih : Snd n) (C : Ctx X c) {elt tg iter : Expr} {ifs : List Expr} {scope : Scope} {pos : Pos} {r : RE} (h : cE (n + 1) c (.ListComp elt [⟨tg, iter, ifs, 0⟩] scope pos) = some r) :
    ∃ wi t tt te own, r = rLc wi t tt te (own.map (·.2)) ∧ QI X tg iter wi ∧ BlkOk X.N X.env.scope scope own ∧ (∀ i ∈ slotsG t, i ∈ own.map (·.2)) ∧
      (∀ (s : Shared) (H : Hp) (C : Addr) (cl : List (Str × Addr)) (fp : List Addr), QG (X.blk s H scope (compEnvC scope cl C X.env) fp) tg t ∧ QTs (X.blk s H scope (compEnvC scope cl C X.env) fp) ifs tt ∧ QE (X.blk s H scope (compEnvC scope cl C X.env) fp) elt te) ∧
      (∀ x, foldedSetIterable iter X.env x = pure x) := by
  simp only [cE] at h
  split at h
  · rename_i cc
    obtain ⟨c1, c2⟩ := conj2 cc
    simp only [Option.bind_eq_some_iff] at h
    obtain ⟨wi, h1, t, h2, tt, h3, te, h4, h5⟩ := h
    split at h5
    · rename_i hs
      cases h5
      have ok : BlkOk c.N c.sc scope (ownOf c.N scope.names) := blkOk_by c2
      refine ⟨wi, t, tt, te, _, rfl, ih.I C h1, by rw [C.N, C.sc]; exact ok, fun i hi => ?_, fun s H Ca cl fp => ?_, fold_of c1⟩
      · have := List.all_eq_true.mp hs i hi
        exact contains_mem this
      · have CB := C.blk ok.kind s H Ca cl fp
        exact ⟨ih.G CB h2, ih.Ts CB h3, ih.E CB h4⟩
    · cases h5
  · cases h
theorem snd_E (ih : Snd n) (C : Ctx X c) {e : Expr} {t : RE} (h : cE (n + 1) c e = some t) : QE X e t := by
  cases e with
  | Name x p =>
    simp only [cE] at h
    split at h
    · rename_i i hi
      cases h
      obtain ⟨a, b, d, v⟩ := var_ok C hi
      exact qe_var d v a b
    · split at h
      · rename_i d hd
        cases h
        obtain ⟨a, b, hg, u, v, hm, r, hr⟩ := glob_ok C hd
        exact qe_con (pe_glob hg hm r a) hr
      · rename_i hd
        obtain ⟨a, b, hg, hm⟩ := free_ok C hd
        simp only [Option.map_eq_some_iff] at h
        obtain ⟨T, hT, rfl⟩ := h
        exact qe_con (pe_bltn (v := .ty T) hg hm (tyF_ok hT) rfl b a) fun H => .ty T
      · cases h
  | Constant k j p =>
    simp only [cE] at h
    split at h <;> first | (cases h; done) | skip
    · cases h; exact qe_con pe_non fun _ => .non
    · cases h; exact qe_con pe_bl fun _ => .bl _
    · cases h; exact qe_con pe_int fun _ => .int _
    · cases h; exact qe_con pe_str fun _ => .str _
  | BinOp a op b p =>
    simp only [cE, Option.bind_eq_some_iff, Option.map_eq_some_iff] at h
    obtain ⟨f, hf, ta, h1, tb, h2, rfl⟩ := h
    obtain ⟨r, o, ft⟩ := binF_ok (X := X) hf
    exact qe_bin o ft (ih.E C h1) (ih.E C h2)
  | Compare a ops bs p =>
    match ops, bs, h with
    | [op], [b], h =>
      simp only [cE, Option.bind_eq_some_iff, Option.map_eq_some_iff] at h
      obtain ⟨f, hf, ta, h1, tb, h2, rfl⟩ := h
      obtain ⟨⟨r, o, ft⟩, nm⟩ := cmpF_ok (X := X) C.g hf
      exact qe_cmp o ft (ih.E C h1) (ih.E C h2) (notIn_marks nm)
    | [op, op'], [b, b'], h =>
      simp only [cE, Option.bind_eq_some_iff, Option.map_eq_some_iff] at h
      obtain ⟨f, hf, f', hf', ta, h1, tb, h2, tc, h3, rfl⟩ := h
      obtain ⟨⟨r, o, ft⟩, nm⟩ := cmpF_ok (X := X) C.g hf
      obtain ⟨⟨r', o', ft'⟩, nm'⟩ := cmpF_ok (X := X) C.g hf'
      exact qe_chain o o' ft ft' (ih.E C h1) (ih.E C h2) (ih.E C h3) (chain_marks nm')
    | [], _, h => simp [cE] at h
    | [_], [], h => simp [cE] at h
    | [_], _ :: _ :: _, h => simp [cE] at h
    | [_, _], [], h => simp [cE] at h
    | [_, _], [_], h => simp [cE] at h
    | [_, _], _ :: _ :: _ :: _, h => simp [cE] at h
    | _ :: _ :: _ :: _, _, h => simp [cE] at h
  | UnaryOp op a p =>
    cases op with
    | USub =>
      simp only [cE, Option.map_eq_some_iff] at h
      obtain ⟨ta, h1, rfl⟩ := h
      exact qe_neg (ih.E C h1)
    | Not =>
      simp only [cE, Option.map_eq_some_iff] at h
      obtain ⟨ta, h1, rfl⟩ := h
      exact qe_notV (ih.E C h1)
    | _ => simp [cE] at h
  | BoolOp op es p => simp only [cE] at h; exact ih.B C h
  | IfExp a b d p =>
    simp only [cE, Option.bind_eq_some_iff, Option.map_eq_some_iff] at h
    obtain ⟨tt, h1, ta, h2, tb, h3, rfl⟩ := h
    exact qe_ifExp (ih.T C h1) (ih.E C h2) (ih.E C h3)
  | Tuple es k p =>
    simp only [cE, Option.map_eq_some_iff] at h
    obtain ⟨ta, h1, rfl⟩ := h
    exact qe_tup (ih.A C h1).1
  | List es p =>
    simp only [cE, Option.map_eq_some_iff] at h
    obtain ⟨ta, h1, rfl⟩ := h
    exact qe_lst (ih.A C h1).1
  | Subscript a i p =>
    have df : (if nsl i = true then (cE n c a).bind fun ta => (cE n c i).map fun ti => rBin ixD ta ti else none) = some t → QE X (.Subscript a i p) t := fun h => by
      split at h
      · rename_i hn
        simp only [Option.bind_eq_some_iff, Option.map_eq_some_iff] at h
        obtain ⟨ta, h1, ti, h2, rfl⟩ := h
        exact qe_ix (ih.E C h1) (ih.E C h2) (plainIx_of hn)
      · cases h
    cases i with
    | Slice lo hi st p2 =>
      cases st with
      | none =>
        simp only [cE, Option.bind_eq_some_iff, Option.map_eq_some_iff] at h
        obtain ⟨ta, h1, tl, h2, th, h3, rfl⟩ := h
        exact qe_sl (ih.E C h1) (ih.O C h2) (ih.O C h3)
      | some s => simp [cE, nsl] at h
    | _ => exact df (by simpa only [cE] using h)
  | Call f args kws pos =>
    cases f with
    | Name x p =>
      simp only [cE] at h
      split at h
      · rename_i j ps kw sp hx
        split at h
        · rename_i hj
          obtain ⟨o1, o2, hg, f, fd, F, hm, hkp, hb, hkw⟩ := glob_ok C hx
          have hr : GRoom j X.A := C.g.room.mono hj
          split at h
          · rename_i hk
            have ek : kws = [] := by cases kws with
              | nil => rfl
              | cons => cases hk
            subst ek
            simp only [Option.map_eq_some_iff] at h
            obtain ⟨ta, h1, rfl⟩ := h
            obtain ⟨qa, hn⟩ := ih.A C h1
            cases args with
            | nil =>
              have e0 : ta = rNil := by
                cases n with
                | zero => simp only [cA] at h1; cases h1
                | succ m => simp only [cA] at h1; cases h1; rfl
              rw [e0]
              exact qe_call0 F hr hg hm hkp hb o1
            | cons e es =>
              have q := conj2 (a := nst e) (b := es.all nst) (by simpa using hn)
              exact qe_call F hr hg hm hkp hb qa o1 (star_cons q.1) (star_any q.2)
          · split at h
            · rename_i hpk
              simp only [Option.bind_eq_some_iff] at h
              obtain ⟨perm, hp, h⟩ := h
              split at h
              · rename_i hl
                simp only [Option.bind_eq_some_iff, Option.map_eq_some_iff] at h
                obtain ⟨ta, h1, tk, h2, rfl⟩ := h
                obtain ⟨qa, hn⟩ := ih.A C h1
                have qk := ih.K C h2
                have KBt := hkw _ _ _ hpk.2 hp
                cases args with
                | nil =>
                  have e0 : ta = rNil := by
                    cases n with
                    | zero => simp only [cA] at h1; cases h1
                    | succ m => simp only [cA] at h1; cases h1; rfl
                  rw [e0]
                  exact qe_callK0 (n := 0) F hr hg hm hkp KBt hl qk (kw_all hpk.1) kw_names o1 (by rw [kw_any hpk.1] <;> rfl)
                | cons e es =>
                  have q := conj2 (a := nst e) (b := es.all nst) (by simpa using hn)
                  refine qe_callK F hr hg hm hkp KBt hl qa qk (kw_all hpk.1) kw_names o1 (star_cons q.1) ?_
                  rw [star_any hn, kw_any hpk.1] <;> rfl
              · cases h
            · cases h
        · cases h
      · rename_i hx
        split at h
        · rename_i hk
          have ek : kws = [] := by cases kws with
            | nil => rfl
            | cons => cases hk
          subst ek
          exact ih.Bl C hx h
        · cases h
      · cases h
    | Attribute o name apos =>
      cases kws with
      | cons => simp [cE] at h
      | nil =>
        simp only [cE] at h
        split at h
        · rename_i cc
          obtain ⟨c1, c2⟩ := conj2 cc
          match args, h with
          | [], h =>
            simp only [Option.bind_eq_some_iff, Option.map_eq_some_iff] at h
            obtain ⟨f, hf, to, h1, rfl⟩ := h
            exact qe_mth0 hf (ih.E C h1) c1 c2
          | [a], h =>
            simp only [Option.bind_eq_some_iff, Option.map_eq_some_iff] at h
            obtain ⟨f, hf, to, h1, ta, h2, rfl⟩ := h
            obtain ⟨qa, hn⟩ := ih.A C h2
            exact qe_mth1 hf (ih.E C h1) qa (by simpa using hn) c1 c2
          | _ :: _ :: _, h => cases h
        · cases h
    | _ => simp [cE] at h
  | ListComp elt gens scope pos =>
    match gens, h with
    | [⟨tg, iter, ifs, 0⟩], h =>
      obtain ⟨wi, t', tt, te, own, rfl, qi, ok, hs, hb, hf⟩ := lc_parts ih C h
      exact qe_lc C.g.calm C.g.nd qi ok hs hb hf
    | [], h => simp [cE] at h
    | _ :: _ :: _, h => simp [cE] at h
    | [⟨tg, iter, ifs, .ofNat (k + 1)⟩], h => cases (show (none : Option RE) = some t from h)
    | [⟨tg, iter, ifs, .negSucc k⟩], h => cases (show (none : Option RE) = some t from h)
  | _ => simp [cE] at h
end
end Ev

namespace Ev
open PySem PySem.Spec PyProof.Rows L2
section
variable {X : Cx} {c : CG} {n : Nat}
theorem swap_comp_no {elt : Expr} {gs : List Comprehension} {scope : Scope} {pos py : Pos} {y : Str} {l : Nat} {env : Env} (hk : env.scope.kind = .function)
    (h : ¬ (env.scope.names.lookup y = some .local ∧ (py.line == pos.line) = true ∧ (scope.names.any fun (n, k) => n == y && (k == .local || k == .cell)) = false)) :
    swapsWith (.ListComp elt gs scope pos) (some (.Name y py)) l env = pure false := by
  have hb : env.blockKind = .function := by unfold Env.blockKind; rw [hk]; rfl
  have e : (env.kindOf y == some .local && py.line == pos.line && !(scope.names.any fun (n, k) => n == y && (k == .local || k == .cell))) = false := by
    apply Bool.eq_false_iff.mpr
    intro z
    simp only [Bool.and_eq_true, Bool.not_eq_true'] at z
    exact h ⟨eq_of_beq z.1.1, z.1.2, z.2⟩
  unfold swapsWith
  simp only [hb]
  show pure ((ScopeKind.function == ScopeKind.function) && env.kindOf y == some .local && py.line == pos.line && !(scope.names.any fun (n, k) => n == y && (k == .local || k == .cell))) = pure false
  rw [show (ScopeKind.function == ScopeKind.function) = true from rfl, Bool.true_and, e]
theorem sole_none {e t : Expr} {l : Nat} {env : Env} (h : ncomp e = true) : swapsWithSole [t] e l env = pure false := by
  show swapsWith e (some t) l env = pure false
  exact swap_none h
theorem cE_comp {gens : List Comprehension} {elt : Expr} {scope : Scope} {pos : Pos} {t : RE} (h : cE n c (.ListComp elt gens scope pos) = some t) : ∃ tg iter ifs, gens = [⟨tg, iter, ifs, 0⟩] ∧ n ≠ 0 := by
  cases n with
  | zero => simp only [cE] at h; cases h
  | succ m =>
    match gens, h with
    | [⟨tg, iter, ifs, 0⟩], h => exact ⟨tg, iter, ifs, rfl, by omega⟩
    | [], h => simp [cE] at h
    | _ :: _ :: _, h => simp [cE] at h
    | [⟨tg, iter, ifs, .ofNat (k + 1)⟩], h => cases (show (none : Option RE) = some t from h)
    | [⟨tg, iter, ifs, .negSucc k⟩], h => cases (show (none : Option RE) = some t from h)
theorem snd_set (ih : Snd n) (ihp : ∀ m, n = m + 1 → Snd m) (C : Ctx X c) {x : Str} {p pos : Pos} {e : Expr} {i : Nat} {te : RE} (hi : c.lslot x = some i) (he : cE n c e = some te) : QS X (.Assign [.Name x p] e pos) (rsAsg te (.nm i)) := by
  obtain ⟨a, b, d⟩ := lslot_ok C hi
  have gen : swapsWith e (some (.Name x p)) pos.line X.env = pure false → QS X (.Assign [.Name x p] e pos) (rsAsg te (.nm i)) := fun hs => qs_set C.g.nd a b (ih.E C he) hs d
  by_cases hc : ncomp e = true
  · exact gen (swap_none hc)
  · cases e <;> first | exact absurd rfl hc | skip
    case ListComp elt gens scope lpos =>
      by_cases hsw : X.env.scope.names.lookup x = some .local ∧ (p.line == lpos.line) = true ∧ (scope.names.any fun (n, k) => n == x && (k == .local || k == .cell)) = false
      · obtain ⟨tg, iter, ifs, rfl, hn⟩ := cE_comp he
        obtain ⟨m, rfl⟩ : ∃ m, n = m + 1 := ⟨n - 1, by omega⟩
        obtain ⟨wi, t', tt, te', own, rfl, qi, ok, hs, hb, hf⟩ := lc_parts (ihp m rfl) C he
        exact qs_setLc C.g.calm C.g.nd a hsw.1 (sw_true C.g.kind hsw.1 hsw.2.1 hsw.2.2) qi ok hs hb hf
      · exact gen (swap_comp_no C.g.kind hsw)
    all_goals (cases n with
      | zero => simp only [cE] at he; cases he
      | succ m => simp [cE] at he)
theorem snd_S (ih : Snd n) (ihp : ∀ m, n = m + 1 → Snd m) (C : Ctx X c) {s : Stmt} {t : RS} (h : cS (n + 1) c s = some t) : QS X s t := by
  cases s with
  | Pass p => simp only [cS] at h; cases h; exact qs_pass
  | Break p => simp only [cS] at h; cases h; exact qs_break
  | Continue p => simp only [cS] at h; cases h; exact qs_cont
  | Raise a b p => simp only [cS] at h; cases h; exact qs_never
  | Expr e p =>
    simp only [cS] at h
    split at h
    · rename_i hc
      simp only [Option.map_eq_some_iff] at h
      obtain ⟨te, h1, rfl⟩ := h
      exact qs_expr (ih.E C h1) (swap_none hc)
    · cases h
  | Return e p =>
    cases e with
    | none => simp only [cS] at h; cases h; exact qs_retN
    | some e =>
      simp only [cS, Option.map_eq_some_iff] at h
      obtain ⟨te, h1, rfl⟩ := h
      exact qs_ret (ih.E C h1)
  | If a b d p =>
    simp only [cS, Option.bind_eq_some_iff, Option.map_eq_some_iff] at h
    obtain ⟨tt, h1, ta, h2, tb, h3, rfl⟩ := h
    exact qs_if (ih.T C h1) (ih.Ss C h2) (ih.Ss C h3)
  | While a b d p =>
    cases d with
    | cons => cases (show (none : Option RS) = some t from h)
    | nil =>
      simp only [cS, Option.bind_eq_some_iff, Option.map_eq_some_iff] at h
      obtain ⟨tt, h1, ta, h2, rfl⟩ := h
      exact qs_while C.g.pass (ih.T C h1) (ih.Ss C h2)
  | For tg iter b d p =>
    cases d with
    | cons => cases (show (none : Option RS) = some t from h)
    | nil =>
      simp only [cS] at h
      split at h
      · rename_i hf
        simp only [Option.bind_eq_some_iff, Option.map_eq_some_iff] at h
        obtain ⟨wi, h1, t', h2, ta, h3, rfl⟩ := h
        exact qs_for C.g.pass C.g.calm (ih.I C h1) (ih.G C h2) (ih.Ss C h3) (fold_of hf)
      · cases h
  | AugAssign tg op e p =>
    cases tg with
    | Name x px =>
      simp only [cS, Option.bind_eq_some_iff, Option.map_eq_some_iff] at h
      obtain ⟨i, hi, f, hf, te, h1, rfl⟩ := h
      obtain ⟨a, b, d⟩ := lslot_ok C hi
      obtain ⟨r, o, ft⟩ := augF_ok (X := X) hf
      exact qs_aug C.g.nd a b (ih.E C h1) o ft d
    | _ => cases (show (none : Option RS) = some t from h)
  | Assign ts e pos =>
    match ts, h with
    | [], h => cases (show (none : Option RS) = some t from h)
    | a :: b :: r, h => cases a <;> cases (show (none : Option RS) = some t from h)
    | [tg], h =>
      cases tg with
      | Name x p =>
        simp only [cS, Option.bind_eq_some_iff, Option.map_eq_some_iff] at h
        obtain ⟨i, hi, te, h1, rfl⟩ := h
        exact snd_set ih ihp C hi h1
      | Subscript o i tp =>
        simp only [cS] at h
        split at h
        · rename_i cc
          obtain ⟨c1, c2⟩ := conj2 cc
          simp only [Option.bind_eq_some_iff, Option.map_eq_some_iff] at h
          obtain ⟨te, h1, to, h2, ti, h3, rfl⟩ := h
          exact qs_sub (ih.E C h1) (ih.E C h2) (ih.E C h3) (asg_sub c1) (sole_none c2) rfl
        · cases h
      | Tuple es k tp =>
        simp only [cS] at h
        split at h
        · rename_i hc
          split at h
          · cases h
          · rename_i hw
            simp only [Option.bind_eq_some_iff, Option.map_eq_some_iff] at h
            obtain ⟨te, h1, t', h2, rfl⟩ := h
            rw [← C.sc] at hw
            exact qs_asg (ih.E C h1) (ih.G C h2) (sole_none hc) (swapped_of C.g.kind hw) rfl
          · rename_i names hw
            rw [← C.sc] at hw
            split at h
            · rename_i x px y py a b k2 p2
              split at h
              · rename_i cc
                obtain ⟨c1, c2, c3⟩ := cc
                subst c1
                simp only [Option.bind_eq_some_iff] at h
                obtain ⟨i, hi, j, hj, h⟩ := h
                split at h
                · rename_i hij
                  simp only [Option.map_eq_some_iff] at h
                  obtain ⟨ta, h1, rfl⟩ := h
                  exact qs_par C.g.calm C.g.nd (by rw [C.N]; exact ix0 hi) (by rw [C.N]; exact ix0 hj) hij (by rw [C.sc]; exact c2) (by rw [C.sc]; exact c3) (ih.A C h1).1 (swapped_of C.g.kind hw)
                · cases h
              · cases h
            · rename_i x px y py z pz a b d k2 p2
              split at h
              · rename_i cc
                obtain ⟨c1, c2, c3, c4⟩ := cc
                subst c1
                simp only [Option.bind_eq_some_iff] at h
                obtain ⟨i, hi, j, hj, l, hl, h⟩ := h
                split at h
                · rename_i hij
                  simp only [Option.map_eq_some_iff] at h
                  obtain ⟨ta, h1, rfl⟩ := h
                  exact qs_par3 C.g.calm C.g.nd (by rw [C.N]; exact ix0 hi) (by rw [C.N]; exact ix0 hj) (by rw [C.N]; exact ix0 hl) hij.1 hij.2.1 hij.2.2 (by rw [C.sc]; exact c2) (by rw [C.sc]; exact c3) (by rw [C.sc]; exact c4) (ih.A C h1).1 (swapped_of C.g.kind hw)
                · cases h
              · cases h
            · cases h
        · cases h
      | _ => cases (show (none : Option RS) = some t from h)
  | _ => cases (show (none : Option RS) = some t from h)
theorem snd_Ss (ih : Snd n) (C : Ctx X c) : ∀ {s : List Stmt} {t : RS}, cSs (n + 1) c s = some t → QSs X s t
  | [], t, h => by simp only [cSs] at h; cases h; exact qss_nil
  | [s], t, h => by simp only [cSs] at h; exact qss_one (ih.S C h)
  | s :: s2 :: r, t, h => by
    simp only [cSs, Option.bind_eq_some_iff, Option.map_eq_some_iff] at h
    obtain ⟨t1, h1, t2, h2, rfl⟩ := h
    exact qss_cons (ih.S C h1) (ih.Ss C h2)
theorem snd_step (ih : Snd n) (ihp : ∀ m, n = m + 1 → Snd m) : Snd (n + 1) where
  E := fun C h => snd_E ih C h
  Bl := fun C hx h => snd_Bl ih C hx h
  T := fun C h => snd_T ih C h
  W := fun C h => snd_W ih C h
  B := fun C h => snd_B ih C h
  A := fun C h => snd_A ih C h
  K := fun C h => snd_K ih C h
  O := fun C h => snd_O ih C h
  Ts := fun C h => snd_Ts ih C h
  I := fun C h => snd_I ih C h
  G := fun C h => snd_G ih C h
  Gs := fun C h => snd_Gs ih C h
  S := fun C h => snd_S ih ihp C h
  Ss := fun C h => snd_Ss ih C h
theorem snd_all : ∀ n, Snd n ∧ (∀ m, n = m + 1 → Snd m)
  | 0 => ⟨snd0, fun m h => by omega⟩
  | n + 1 => by
    obtain ⟨h1, h2⟩ := snd_all n
    exact ⟨snd_step h1 h2, fun m e => by
      have : n = m := by omega
      rw [← this]; exact h1⟩
/-- THE COMPILER IS RIGHT -/
theorem comp_ok {f : Nat} (C : Ctx X c) {s : List Stmt} {t : RS} (h : cSs f c s = some t) : QSs X s t := (snd_all f).1.Ss C h
end
end Ev

namespace Ev
open PySem PySem.Spec PyProof.Rows L2
/-! ### defs by the compiler -/
def GvP (P : Program) (w : World) (K : PySem.W.Frag) (mg : Str → Option Value) (base : Heap) (x : Str) : GV → Prop
  | .fn j ps kw sp => ∃ f fd, FnG P w K mg base j f fd ps sp ∧ mg x = some (.ref f) ∧ PySem.W.keepIn K (.ref f) = true ∧ L2.Binds K fd ps [] ∧ ∀ n ks perm, (n, ks) ∈ kw → permOf ps n ks = some perm → KB K fd ps n ks perm
  | .con d => ∃ u v, mg x = some u ∧ L2.RelV v u ∧ ∀ H, DR K H d v
  | .free => mg x = none
def GsP (P : Program) (w : World) (K : PySem.W.Frag) (mg : Str → Option Value) (base : Heap) (G : List (Str × GV)) : Prop := ∀ x v, G.lookup x = some v → GvP P w K mg base x v
section
variable {P : Program} {w : World} {K : PySem.W.Frag} {mg : Str → Option Value} {base : Heap} {G : List (Str × GV)}
theorem GsP.nil : GsP P w K mg base [] := fun x v h => by cases h
theorem GsP.cons {x : Str} {v : GV} (h : GvP P w K mg base x v) (r : GsP P w K mg base G) : GsP P w K mg base ((x, v) :: G) := fun y u e => by
  rw [List.lookup_cons] at e
  split at e
  · rename_i hy
    cases e
    have : y = x := eq_of_beq hy
    rw [this]; exact h
  · exact r y u e
/-- THE RULE: a def by the compiler -/
theorem fn_comp {k fu : Nat} {f : Addr} {x qual : Str} {params : Arguments} {body : List Stmt} {scope : Scope} {fd : FuncData} {N ps : List Str} {sp : SpD} {dvs : List V} {kws : List (Str × V)} {t : RS}
    (F : FunD K x qual params body scope dvs kws f fd) (S : FnScope N ps scope) (len : ∀ ds S Q R, sp ds S Q R → ds.length = ps.length)
    (hG : GsP P w K mg base G) (ht : cSs fu ⟨G, N, scope, true, k⟩ body = some t)
    (hw : ∀ ds St Q R, sp ds St Q R → t (endsD Q R) (startD N ds) St) : FnG P w K mg base (k + 1) f fd ps sp :=
  fn_by F S len t (fun X e1 e2 e3 e4 e5 e6 e7 g => comp_ok (c := ⟨G, N, scope, true, k⟩) ⟨g, e6, e7, fun x v h => by
    have q := hG x v h
    subst e1 e2 e3 e4 e5
    cases v <;> exact q⟩ ht) hw
theorem gv_fn {j : Nat} {f : Addr} {x : Str} {fd : FuncData} {ps : List Str} {kw : List (Nat × List Str)} {sp : SpD} (F : FnG P w K mg base j f fd ps sp) (hm : mg x = some (.ref f)) (hk : PySem.W.keepIn K (.ref f) = true) (hb : L2.Binds K fd ps []) (hkw : ∀ n ks perm, (n, ks) ∈ kw → permOf ps n ks = some perm → KB K fd ps n ks perm) :
    GvP P w K mg base x (.fn j ps kw sp) := ⟨f, fd, F, hm, hk, hb, hkw⟩
theorem gv_int {x : Str} {i : Int} (h : ∃ t, mg x = some (.int i t)) : GvP P w K mg base x (.con (.int i)) := by
  obtain ⟨t, h⟩ := h
  exact ⟨_, .int i, h, ⟨t, rfl⟩, fun _ => .int i⟩
theorem gv_str {x z : Str} (h : ∃ t, mg x = some (.str z t)) : GvP P w K mg base x (.con (.str z)) := by
  obtain ⟨t, h⟩ := h
  exact ⟨_, .str z, h, ⟨t, rfl⟩, fun _ => .str z⟩
theorem gv_tup {x : Str} {a : Addr} {ds : List Dt} {vs : List V} (h : mg x = some (.ref a)) (hq : ∀ H, SqT K H a vs) (r : ∀ H, DRs K H ds vs) : GvP P w K mg base x (.con (.tup ds)) :=
  ⟨_, .ref a, h, rfl, fun H => .tup (hq H) (r H)⟩
end
/-! ### the end -/
/-- the law's promise at the heap behind the top -/
theorem law_callG {P : Program} {w : World} {K : PySem.W.Frag} {mg mb : Str → Option Value} {k : Nat} {fa a : Addr} {fd : FuncData} {x : Str} {sp : SpD} {s₁ : Shared} {vs : List Value} {ns : List Int}
    (KX : K.In s₁.heap) (hns : s₁.heap.Ns mainGlobals mg) (hb : s₁.heap.Ns builtinsNs mb) (hbb : ∀ x : Str, x ≠ "__name__" → mb x = bootBuiltins x) (hlim : s₁.heap.NoLimit) (hg : s₁.gens = #[])
    (ha : s₁.heap.get? a = some { cls := .type "list", data := .seq vs.toArray }) (hi : IntsAre vs ns) (hl : ns.length ≤ sizeLine) (hr : GRoom k callerA)
    (F : ∀ base : Heap, K.In base → base.Ns mainGlobals mg → FnG P w K mg base k fa fd [x] sp) (hbind : ∀ (s : Shared) (u : Value), BindsTo s fd ⟨[u], []⟩ [(x, u)])
    (hsp : sp [.frl (ns.map Dt.int)] (fun _ => none) (fun d _ => d = .bl true) (fun _ _ => False)) :
    codeAny (model P w) callerA (.call (.ref fa) ⟨[.ref a], []⟩) (fun r s' => r = .ok (.ret (.bool true)) ∧ OldK s₁.heap s'.heap ∧ s'.os = s₁.os ∧ AllBare s'.gens) s₁ := by
  -- an abstract heap that tracks the script at most
  have goal : ∀ H : Hp, Only H → HOk P w H s₁.heap → (∀ b, H b ≠ none → b = a) → (H a ≠ none → K.lookup a = none) → SqF K H a (ns.map V.int) →
      codeAny (model P w) callerA (.call (.ref fa) ⟨[.ref a], []⟩) (fun r s' => r = .ok (.ret (.bool true)) ∧ OldK s₁.heap s'.heap ∧ s'.os = s₁.os ∧ AllBare s'.gens) s₁ := by
    intro H hO hok hA hK hF
    have seen : ∀ {b : Addr} {o : Obj}, s₁.heap.get? b = some o → b ≠ a → (hidT s₁.heap H).get? b = some o := fun {b o} e hne => hidT_get e (by
      cases q : H b with
      | none => rfl
      | some u => exact absurd (hA b (by rw [q]; simp)) hne)
    have nsK : ∀ {b : Addr} {m : Str → Option Value}, s₁.heap.Ns b m → (hidT s₁.heap H).Ns b m := fun {b m} hn => by
      obtain ⟨o, es, ep, e, d, r⟩ := hn
      refine ⟨o, es, ep, seen e fun z => ?_, d, r⟩
      subst z
      rw [ha] at e; cases e; cases d
    have KB0 : K.In (hidT s₁.heap H) := fun b o e => by
      cases q : H b with
      | none => exact hidT_get (KX b o e) q
      | some u =>
        have hb : H b ≠ none := by rw [q]; simp
        have := hA b hb
        subst this
        rw [hK hb] at e; cases e
    have M : Mod K mg (hidT s₁.heap H) := by
      obtain ⟨mc, h1, h2⟩ := hlim
      exact ⟨KB0, nsK hns, ⟨mb, nsK hb, hbb⟩, ⟨mc, nsK h1, h2⟩⟩
    have e0 : Env0 P w K mg (hidT s₁.heap H) callerA [] s₁ H := ⟨rfl, M, fun b o e => of_hidT e, Nat.le_of_eq (hidT_size _ _), trivial, fun b hb => absurd (show b ∈ ([] : List Addr) from hb) (by simp), hok, .of_eq hg⟩
    have lift : liftSp K sp [.ref a] H (fun v _ => v = .bl true) (fun _ _ _ => False) := by
      refine ⟨[.frl (ns.map Dt.int)], fun _ => none, fun d _ => d = .bl true, fun _ _ => False, .cons (.frl hF (DRs.ints ns)) .nil, ?_, hsp, ?_, ?_⟩
      · intro b o h
        cases h
      · intro d S' v H' _ r _ e
        have e : d = .bl true := e
        subst e
        cases r
        rfl
      · intro _ _ _ _ _ _ _ _ h
        exact h
    refine codeAny_mono ((F _ KB0 (nsK hns)).run callerA [] s₁ H ⟨[.ref a], []⟩ [.ref a] [.ref a] _ _ hr e0 (hbind s₁ (.ref a)) (.cons rfl .nil) lift) fun r s' h => ?_
    match r, h with
    | .error e, h =>
      obtain ⟨_, _, _, _, _, _, _, _, _, _, _, _, z⟩ := (show L2.CX P w [] H s₁ (fun _ _ _ => False) e s' from h)
      exact z.elim
    | .ok (.ret u), h =>
      obtain ⟨v, H', os, bare, un, hok', r', q⟩ := h
      have q' : v = .bl true := q
      subst q'
      obtain rfl : u = Value.bool true := r'
      refine ⟨rfl, OldK.of_keep fun b o e => ?_, os, bare⟩
      cases q : H b with
      | none => exact un.keep b o e q (by intro z; exact absurd (show b ∈ ([] : List Addr) from z) (by simp)) (by simp)
      | some u =>
        rcases hO b with z | ⟨ob, xs, z⟩
        · rw [q] at z; cases z
        · obtain ⟨e1, _⟩ := hok b _ z
          obtain ⟨e2, _⟩ := hok' b _ (un.frzs b ob _ z)
          rw [e] at e1; cases e1
          exact e2
    | .ok .next, h => exact h.elim
    | .ok .brk, h => exact h.elim
    | .ok .cont, h => exact h.elim
  have rv := vals_ints hi
  have lenV := hi.length
  cases hk : K.lookup a with
  | some o =>
    have e := KX a o hk
    rw [ha] at e
    cases e
    exact goal (fun _ => none) (fun _ => .inl rfl) (fun b u z => by have z' : (none : Option HO) = some u := z; cases z') (fun b z => absurd rfl z) (fun z => absurd rfl z)
      (.inr (.inr ⟨_, vs.toArray, _, hk, rfl, rfl, rfl, by rw [List.size_toArray, lenV]; exact hl, by simpa using rv⟩))
  | none =>
    let H : Hp := fun b => if b = a then some (.frz { cls := .type "list", data := .seq vs.toArray } (.lst (ns.map V.int))) else none
    have Ha : H a = some (.frz { cls := .type "list", data := .seq vs.toArray } (.lst (ns.map V.int))) := if_pos rfl
    have Hb : ∀ b, b ≠ a → H b = none := fun b hb => if_neg hb
    refine goal H (fun b => ?_) (fun b u z => ?_) (fun b z => ?_) (fun _ => hk) (.inl ⟨_, Ha⟩)
    · by_cases hb : b = a
      · subst hb; exact .inr ⟨_, _, Ha⟩
      · exact .inl (Hb b hb)
    · by_cases hb : b = a
      · subst hb
        rw [Ha] at z; cases z
        exact ⟨ha, by rw [List.length_map]; exact hl, vs, _, rv, ha⟩
      · rw [Hb b hb] at z; cases z
    · by_cases hb : b = a
      · exact hb
      · exact absurd (Hb b hb) z
theorem walk_g {l : PySem.W.OpenLaw} {n k : Nat} {q : Program} {loose : List Str} {XP : (Str → Option Value) → Heap → Prop} {YP : World → Heap → Prop} {d : DefRec} {x : Str}
    (hn : l.most = some n) (hn2 : n ≤ sizeLine) (hdf : d.params.defaults = []) (hr : GRoom k callerA)
    (F : ∀ (w : World) (mg : Str → Option Value) (fa : Addr) (h : Heap), YP w h → h.Ns mainGlobals mg → mg d.name = some (.ref fa) →
      ∃ (K : PySem.W.Frag) (fd : FuncData) (sp : SpD), K.In h ∧ (∀ (s : Shared) (u : Value), BindsTo s fd ⟨[u], []⟩ [(x, u)]) ∧
        (∀ (ns : List Int), ns.length ≤ n → (∀ z ∈ ns, Builtin.Int.intBits z ≤ 1048576) → sp [.frl (ns.map Dt.int)] (fun _ => none) (fun d _ => d = .bl true) (fun _ _ => False)) ∧
        ∀ base : Heap, K.In base → base.Ns mainGlobals mg → FnG l.prog w K mg base k fa fd [x] sp) :
    PySem.W.WalkO q loose XP YP l.row.toRowW d [] (fun f vs => PySem.call f vs) := by
  refine Att.attach_callB hn hdf fun w s₀ s₁ mg mb fa o pm cd doc a vs ns G Y ho hd hcd hmg hobj hints hlen hbits hg => ?_
  obtain ⟨K, fd, sp, KX, hb, hsp, hF⟩ := F w mg fa _ Y G.T.g hmg
  exact law_callG KX G.T.g G.T.b G.T.builtins G.T.nolimit hg hobj hints (Nat.le_trans hlen hn2) hr hF hb (hsp ns hlen hbits)
theorem groom_caller {k : Nat} (h : k ≤ 200) : GRoom k callerA :=
  have d0 : callerA.depth ≤ 301 := by decide
  have d1 : callerA.units ≤ 1000 := by decide
  have r : recursionLimit = 1000 := rfl
  have c : cLine = 9900 := rfl
  ⟨⟨rfl, by rw [r]; omega, by rw [c]; omega⟩, rfl⟩
end Ev

namespace Ev
open PySem PySem.Spec PyProof.Rows L2
theorem FunD.kbN {K : PySem.W.Frag} {x qual : Str} {params : Arguments} {body : List Stmt} {scope : Scope} {kws : List (Str × V)} {f : Addr} {fd : FuncData} {ps ks : List Str} {n : Nat} {perm : List Nat} (F : L2.FunD K x qual params body scope [] kws f fd)
    (h : ∀ (kV doc pm : Value) (an : Option Addr) (cdv ct : Value) (us ws : List Value), us.length = n → ws.length = ks.length → bindArgs (PySem.W.fnOf x qual params body scope .none kV doc pm an cdv ct) ⟨us, ks.zip ws⟩ = pure (ps.zip (perm.filterMap fun i => (us ++ ws)[i]?))) : KB K fd ps n ks perm := by
  obtain ⟨oc, od, dV, kV, doc, pm, an, cdv, ct, osl, rfl, lk, hcd, hD, hK⟩ := F.ex
  rcases hD with ⟨_, rfl⟩ | ⟨e, _⟩
  · exact fun s us ws _ h1 h2 => .of_eq (h kV doc pm an cdv ct us ws h1 h2)
  · exact absurd rfl e
end Ev

namespace Ev
open PySem PySem.Spec PyProof.Rows L2
/-! ### fractions as data -/
def fr (q : Rat) : Dt := .tup [.int q.num, .int (q.den : Int)]
theorem fr_inj {p q : Rat} : fr p = fr q ↔ p = q := by
  constructor
  · intro h
    simp only [fr, Dt.tup.injEq, List.cons.injEq, Dt.int.injEq, and_true] at h
    exact Rat.ext h.1 (by omega)
  · intro h; rw [h]
def pl (p : List Rat) : Dt := .tup (p.map fr)
theorem pl_inj {p q : List Rat} : pl p = pl q ↔ p = q := by
  constructor
  · intro h
    have h' : p.map fr = q.map fr := by unfold pl at h; exact Dt.tup.inj h
    clear h
    induction p generalizing q with
    | nil => cases q with
      | nil => rfl
      | cons b q => cases h'
    | cons a p ih => cases q with
      | nil => cases h'
      | cons b q =>
        rw [List.map_cons, List.map_cons, List.cons.injEq] at h'
        rw [fr_inj.mp h'.1, ih h'.2]
  · intro h; rw [h]
theorem beq_dec {α : Type} [DecidableEq α] (i j : α) : (i == j) = decide (i = j) := by
  by_cases h : i = j <;> simp [h]
section
variable {S : Sto} {Q : QD}
theorem eqv_int (i j : Int) : PyData.eqv (.int i) (.int j) = decide (i = j) := by
  unfold PyData.eqv
  exact beq_dec i j
theorem eqv_str (i j : Str) : PyData.eqv (.str i) (.str j) = decide (i = j) := by
  unfold PyData.eqv
  exact beq_dec i j
theorem sh_int (i : Int) : SeqAt.shaped (.int i) = true := by
  unfold SeqAt.shaped PyData.canLay0 PyData.depth
  rfl
theorem eqR_int {i j : Int} {b : Bool} : eqR S (.int i) (.int j) b ↔ b = decide (i = j) := by
  constructor
  · rintro ⟨p, q, h1, h2, _, _, rfl⟩
    cases h1; cases h2
    exact eqv_int i j
  · rintro rfl
    exact ⟨_, _, .int i, .int j, sh_int i, sh_int j, (eqv_int i j).symm⟩
theorem eqR_str' {i j : Str} {b : Bool} (h : eqR S (.str i) (.str j) b) : b = decide (i = j) := by
  obtain ⟨p, q, h1, h2, _, _, rfl⟩ := h
  cases h1; cases h2
  exact eqv_str i j
theorem eqD_of {x y : Dt} {b : Bool} (h : eqR S x y b) (q : Q (.bl b) S) : eqD x y S Q := by
  unfold eqD
  split
  · rw [← eqR_str' h]; exact q
  · exact ⟨b, h, q⟩
theorem neD_of {x y : Dt} {b : Bool} (h : eqR S x y b) (q : Q (.bl (!b)) S) : neD x y S Q := by
  unfold neD
  split
  · rw [← eqR_str' h]; exact q
  · exact ⟨b, h, q⟩
theorem eqD_str {i j : Str} : eqD (.str i) (.str j) S Q = Q (.bl (decide (i = j))) S := rfl
theorem neD_str {i j : Str} : neD (.str i) (.str j) S Q = Q (.bl (!decide (i = j))) S := rfl
theorem eqD_int {i j : Int} : eqD (.int i) (.int j) S Q ↔ Q (.bl (decide (i = j))) S := by
  simp only [eqD, eqR_int, exists_eq_left]
theorem neD_int {i j : Int} : neD (.int i) (.int j) S Q ↔ Q (.bl (!decide (i = j))) S := by
  simp only [neD, eqR_int, exists_eq_left]
theorem ixD_fr0 {q : Rat} : ixD (fr q) (.int 0) S Q ↔ Q (.int q.num) S := by
  simp only [fr, ixD]
  constructor
  · rintro ⟨d, h, q⟩; cases h; exact q
  · intro h; exact ⟨_, rfl, h⟩
theorem ixD_fr1 {q : Rat} : ixD (fr q) (.int 1) S Q ↔ Q (.int (q.den : Int)) S := by
  simp only [fr, ixD]
  constructor
  · rintro ⟨d, h, q⟩; cases h; exact q
  · intro h; exact ⟨_, rfl, h⟩
theorem ixD_pair0 {x y : Dt} : ixD (.tup [x, y]) (.int 0) S Q ↔ Q x S := by
  simp only [ixD]
  constructor
  · rintro ⟨d, h, q⟩; cases h; exact q
  · intro h; exact ⟨_, rfl, h⟩
theorem ixD_pair1 {x y : Dt} : ixD (.tup [x, y]) (.int 1) S Q ↔ Q y S := by
  simp only [ixD]
  constructor
  · rintro ⟨d, h, q⟩; cases h; exact q
  · intro h; exact ⟨_, rfl, h⟩
end
theorem rt_of {Q : QD} {R : XD → Sto → Prop} {d : Dt} {S : Sto} (h : Q d S) : (endsD Q R).rt d S := ⟨S, Sub.refl, h⟩
theorem rt_sub {Q : QD} {R : XD → Sto → Prop} {d : Dt} {S S0 : Sto} (h : Q d S0) (s : Sub S0 S) : (endsD Q R).rt d S := ⟨S0, s, h⟩
section
variable {S : Sto} {Q : QD} {E : Sto → Prop} {i j : Int} {x y : Dt} {xs ys : List Dt} {a b : Addr} {u v : Str} {R : List Dt → (Sto → Prop) → Sto → Prop} {lo hi : Option Int} {p : Int → Int → Bool} {σ : Slo} {k : Nat} {t : Tg} {ts : List Tg} {c : Bool}
theorem addD_int : addD (.int i) (.int j) S Q = Q (.int (i + j)) S := rfl
theorem addD_tup : addD (.tup xs) (.tup ys) S Q = (xs.length + ys.length ≤ sizeLine ∧ Q (.tup (xs ++ ys)) S) := rfl
theorem addD_str : addD (.str u) (.str v) S Q = (u.length + v.length ≤ sizeLine ∧ Q (.str (u ++ v)) S) := rfl
theorem addD_ref : addD (.ref a) (.ref b) S Q = (∃ xs ys, S a = some (.lst xs) ∧ S b = some (.lst ys) ∧ xs.length + ys.length ≤ sizeLine ∧ ∀ p, S p = none → Q (.ref p) (put S p (.lst (xs ++ ys)))) := rfl
theorem subD_int : subD (.int i) (.int j) S Q = Q (.int (i - j)) S := rfl
theorem mulD_int : mulD (.int i) (.int j) S Q = (mulOk i j ∧ Q (.int (i * j)) S) := rfl
theorem mulD_ref : mulD (.ref a) (.int i) S Q = (∃ xs, S a = some (.lst xs) ∧ -(2 ^ 63) ≤ i ∧ i < 2 ^ 63 ∧ xs.length * i.toNat ≤ sizeLine ∧ ∀ p, S p = none → Q (.ref p) (put S p (.lst (List.replicate i.toNat xs).flatten))) := rfl
theorem mulD_tup : mulD (.tup xs) (.int i) S Q = (-(2 ^ 62) ≤ i ∧ i ≤ 1000 ∧ xs.length ≤ 1000 ∧ Q (.tup (List.replicate i.toNat xs).flatten) S) := rfl
theorem fdivD_int : fdivD (.int i) (.int j) S Q = (divOk j ∧ Q (.int (i / j)) S) := rfl
theorem modD_int : modD (.int i) (.int j) S Q = (0 < j ∧ Q (.int (i % j)) S) := rfl
theorem powD_int : powD (.int i) (.int j) S Q = (CPow i j ∧ Q (.int (i ^ j.toNat)) S) := rfl
theorem cmpD_int : cmpD p (.int i) (.int j) S Q = Q (.bl (p i j)) S := rfl
theorem isD_non : isD x .non S Q = Q (.bl (isNon x)) S := rfl
theorem isnD_non : isnD x .non S Q = Q (.bl (!isNon x)) S := rfl
theorem iaddD_int : iaddD (.int i) (.int j) S Q = Q (.int (i + j)) S := rfl
theorem isNon_non : isNon .non = true := rfl
theorem isNon_int : isNon (.int i) = false := rfl
theorem isNon_bl : isNon (.bl c) = false := rfl
theorem isNon_str : isNon (.str u) = false := rfl
theorem isNon_tup : isNon (.tup xs) = false := rfl
theorem isNon_fr {q : Rat} : isNon (fr q) = false := rfl
theorem absD_int : absD [.int i] S Q = Q (.int (if i < 0 then -i else i)) S := rfl
theorem intD_int : intD [.int i] S Q = Q (.int i) S := rfl
theorem intD_bl : intD [.bl c] S Q = Q (.int (if c then 1 else 0)) S := rfl
theorem lenD_tup : lenD [.tup xs] S Q = Q (.int (xs.length : Nat)) S := rfl
theorem lenD_ref : lenD [.ref a] S Q = ∃ xs, lstOf S a = some xs ∧ Q (.int (xs.length : Nat)) S := rfl
theorem listD_tup : listD [.tup xs] S Q = ∀ p, S p = none → Q (.ref p) (put S p (.lst xs)) := rfl
theorem listD_ref : listD [.ref a] S Q = ∃ xs, lstOf S a = some xs ∧ ∀ p, S p = none → Q (.ref p) (put S p (.lst xs)) := rfl
theorem tupleD_tup : tupleD [.tup xs] S Q = Q (.tup xs) S := rfl
theorem tupleD_ref : tupleD [.ref a] S Q = ∃ xs, lstOf S a = some xs ∧ Q (.tup xs) S := rfl
theorem max2D_int : max2D [.int i, .int j] S Q = Q (.int (if j > i then j else i)) S := rfl
theorem min2D_int : min2D [.int i, .int j] S Q = Q (.int (if j < i then j else i)) S := rfl
theorem truD_int : truD (.int i) S = some (i != 0) := rfl
theorem truD_bl : truD (.bl c) S = some c := rfl
theorem truD_tup : truD (.tup xs) S = some (!xs.isEmpty) := rfl
theorem truD_non : truD .non S = some false := rfl
theorem seqW_tup : seqW (.tup xs) S R = R xs (fun _ => True) S := rfl
theorem seqW_ref : seqW (.ref a) S R = ∃ ds, lstOf S a = some ds ∧ R ds (StL a ds) S := rfl
theorem enumW_tup : enumW (.tup xs) S R = R (enumD 0 xs) (fun _ => True) S := rfl
theorem enumW_ref : enumW (.ref a) S R = ∃ ds, lstOf S a = some ds ∧ R (enumD 0 ds) (StL a ds) S := rfl
theorem revW_tup : revW (.tup xs) S R = R xs.reverse (fun _ => True) S := rfl
theorem revW_ref : revW (.ref a) S R = ∃ ds, lstOf S a = some ds ∧ R ds.reverse (StL a ds) S := rfl
theorem rngW1_int : rngW1 [.int j] S R = (smallI j ∧ R (rngD 0 j) (fun _ => True) S) := rfl
theorem rngW2_int : rngW2 [.int i, .int j] S R = ((smallI i ∧ smallI j) ∧ R (rngD i j) (fun _ => True) S) := rfl
theorem slD_tup : slD (.tup xs) lo hi S Q = Q (.tup (cutD xs lo hi)) S := rfl
theorem slD_ref : slD (.ref a) lo hi S Q = ∃ xs, lstOf S a = some xs ∧ ∀ p, S p = none → Q (.ref p) (put S p (.lst (cutD xs lo hi))) := rfl
theorem slD_frl : slD (.frl xs) lo hi S Q = ∀ p, S p = none → Q (.ref p) (put S p (.lst (cutD xs lo hi))) := rfl
theorem popD_ref : popD (.ref a) [] S Q = ∃ xs y, S a = some (.lst xs) ∧ xs[xs.length - 1]? = some y ∧ Q y (put S a (.lst xs.dropLast)) := rfl
theorem appendD_ref : appendD (.ref a) [y] S Q = ∃ xs, S a = some (.lst xs) ∧ xs.length < sizeLine ∧ Q .non (put S a (.lst (xs ++ [y]))) := rfl
theorem extendD_ref : extendD (.ref a) [.ref b] S Q = ∃ xs ys, S a = some (.lst xs) ∧ S b = some (.lst ys) ∧ xs.length + ys.length ≤ sizeLine ∧ Q .non (put S a (.lst (xs ++ ys))) := rfl
theorem setD_ref : setD (.ref a) (.int i) x S E = ∃ xs j, S a = some (.lst xs) ∧ ixN xs.length i = some j ∧ E (put S a (.lst (xs.set j x))) := rfl
theorem bindG_nm : bindG (.nm k) x σ = some (σ.set k (some x)) := by simp only [bindG]
theorem bindG_tup : bindG (.tup ts) (.tup xs) σ = bindGs ts xs σ := by simp only [bindG]
theorem bindGs_nil : bindGs [] [] σ = some σ := by simp only [bindGs]
theorem bindGs_cons : bindGs (t :: ts) (x :: xs) σ = (bindG t x σ).bind (bindGs ts xs) := by simp only [bindGs]
theorem ixD_ref : ixD (.ref a) (.int i) S Q = ∃ xs d, lstOf S a = some xs ∧ atD xs i = some d ∧ Q d S := rfl
theorem lenD_pl {p : List Rat} : lenD [pl p] S Q = Q (.int (p.length : Nat)) S := by simp only [pl, lenD_tup, List.length_map]
theorem listD_pl {p : List Rat} : listD [pl p] S Q = ∀ a, S a = none → Q (.ref a) (put S a (.lst (p.map fr))) := rfl
theorem tupleD_pl {p : List Rat} : tupleD [pl p] S Q = Q (pl p) S := rfl
theorem seqW_pl {p : List Rat} : seqW (pl p) S R = R (p.map fr) (fun _ => True) S := rfl
theorem enumW_pl {p : List Rat} : enumW (pl p) S R = R (enumD 0 (p.map fr)) (fun _ => True) S := rfl
theorem revW_pl {p : List Rat} : revW (pl p) S R = R (p.map fr).reverse (fun _ => True) S := rfl
theorem slD_pl {p : List Rat} : slD (pl p) lo hi S Q = Q (.tup (cutD (p.map fr) lo hi)) S := rfl
theorem isNon_pl {p : List Rat} : isNon (pl p) = false := rfl
theorem addD_pl {p q : List Rat} : addD (pl p) (pl q) S Q = (p.length + q.length ≤ sizeLine ∧ Q (pl (p ++ q)) S) := by
  simp only [pl, addD_tup, List.length_map, List.map_append]
theorem ixD_tup : ixD (.tup xs) (.int i) S Q = ∃ d, atD xs i = some d ∧ Q d S := rfl
end
/-- a small loop rule: a while over its own measure -/
theorem while_rule {tc : RT} {tb : RS} {D : EndsD} {σ : Slo} {S : Sto} (W : Nat → Slo → Sto → Prop) (m : Nat) (h0 : W m σ S)
    (h : ∀ m σ S, W m σ S → tc σ S (fun b S1 => if b = true then ∃ N : Slo → Sto → Prop, (∀ σ' S', N σ' S' → ∃ m', m' < m ∧ W m' σ' S') ∧ tb { D with nx := N, ct := N, bk := D.nx } σ S1 else D.nx σ S1) D.ex) : rsWhile tc tb D σ S := ⟨W, ⟨m, h0⟩, h⟩
/-! ### the greatest common divisor -/
def sp_common_divisor : SpD := fun ds S Q _ => ∃ a b : Int, ds = [.int a, .int b] ∧ Q (.int (Int.gcd a b : Nat)) S
def t_common_divisor : RS := rsSeq (rsPar 2 3 (rCons (rBlt absD (rCons (rVar 0) rNil)) (rCons (rBlt absD (rCons (rVar 1) rNil)) rNil))) (rsSeq (rsWhile (rTru (rVar 2)) (rsPar 2 3 (rCons (rBin modD (rVar 3) (rVar 2)) (rCons (rVar 2) rNil)))) (rsRet (rVar 3)))
theorem abs_eq (i : Int) : (if i < 0 then -i else i) = (i.natAbs : Int) := by split <;> omega
theorem hw_common_divisor : ∀ ds St Q R, sp_common_divisor ds St Q R → t_common_divisor (endsD Q R) (startD ["one", "other", "low", "high"] ds) St := by
  rintro ds S Q R ⟨a, b, rfl, hQ⟩
  simp only [t_common_divisor, rsFor, rLc, wipeD, rsNext, rsSeq, rsDrop, rsRet, rsRetN, rsIf, rsAsg, rsPar, rsPar3, rsAug, rsSet, rsBreak, rsCont, rVar, rC, rBin, rTru, rTest, rChain, rNeg, rNot, rAnd, rOr, rIf, rAndV, rOrV, rNotV, rNil, rCons, rTup, rLst, rNone, rSome, rSl, rCall, rCallK, rBlt, rLRev, rMeth, rMeth0, rYes, wSeq, wEnum, wRev, wRng1, wRng2, addD_int, addD_tup, addD_str, addD_ref, subD_int, mulD_int, mulD_ref, mulD_tup, fdivD_int, modD_int, powD_int, cmpD_int, isD_non, isnD_non, iaddD_int, isNon_non, isNon_int, isNon_str, isNon_tup, isNon_fr, isNon_bl, eqD_int, neD_int, absD_int, intD_int, intD_bl, lenD_tup, lenD_ref, lenD_pl, listD_pl, tupleD_pl, seqW_pl, enumW_pl, revW_pl, slD_pl, isNon_pl, addD_pl, listD_tup, listD_ref, tupleD_tup, tupleD_ref, max2D_int, min2D_int, truD_int, truD_bl, truD_tup, truD_non, seqW_tup, seqW_ref, enumW_tup, enumW_ref, revW_tup, revW_ref, rngW1_int, rngW2_int, slD_tup, slD_ref, slD_frl, popD_ref, appendD_ref, extendD_ref, setD_ref, bindG_nm, bindG_tup, bindGs_nil, bindGs_cons, ixD_ref, startD, List.map_cons, List.map_nil, List.length_cons, List.length_nil, List.cons_append, List.nil_append, List.getElem?_cons_zero, List.getElem?_cons_succ, List.set_cons_zero, List.set_cons_succ, Option.some.injEq, exists_eq_left', exists_eq_left, Option.bind_some, Nat.reduceAdd, Nat.reduceSub, List.replicate_succ, List.replicate_zero, Dt.bl.injEq, Dt.int.injEq, decide_eq_true_eq, Bool.false_eq_true, if_true, if_false, Bool.not_eq_true', Bool.not_true, Bool.not_false, bne_iff_ne, ne_eq, ixD_fr0, ixD_fr1, ixD_pair0, ixD_pair1, Dt.ref.injEq, List.cons.injEq, and_true, true_and, reduceIte, exists_eq, Nat.zero_add, Dt.tup.injEq, and_self, and_assoc, exists_and_left, fr_inj, pl_inj, ite_true, ite_false]
  simp only [abs_eq]
  refine while_rule (fun m σ S' => S' = S ∧ ∃ x y : Nat, m = x ∧ Nat.gcd x y = Int.gcd a b ∧ σ = [some (.int a), some (.int b), some (.int (x : Int)), some (.int (y : Int))]) a.natAbs ⟨rfl, _, _, rfl, rfl, rfl⟩ ?_
  rintro m σ S' ⟨rfl, x, y, rfl, hg, rfl⟩
  simp only [rsFor, rLc, wipeD, rsNext, rsSeq, rsDrop, rsRet, rsRetN, rsIf, rsAsg, rsPar, rsPar3, rsAug, rsSet, rsBreak, rsCont, rVar, rC, rBin, rTru, rTest, rChain, rNeg, rNot, rAnd, rOr, rIf, rAndV, rOrV, rNotV, rNil, rCons, rTup, rLst, rNone, rSome, rSl, rCall, rCallK, rBlt, rLRev, rMeth, rMeth0, rYes, wSeq, wEnum, wRev, wRng1, wRng2, addD_int, addD_tup, addD_str, addD_ref, subD_int, mulD_int, mulD_ref, mulD_tup, fdivD_int, modD_int, powD_int, cmpD_int, isD_non, isnD_non, iaddD_int, isNon_non, isNon_int, isNon_str, isNon_tup, isNon_fr, isNon_bl, eqD_int, neD_int, absD_int, intD_int, intD_bl, lenD_tup, lenD_ref, lenD_pl, listD_pl, tupleD_pl, seqW_pl, enumW_pl, revW_pl, slD_pl, isNon_pl, addD_pl, listD_tup, listD_ref, tupleD_tup, tupleD_ref, max2D_int, min2D_int, truD_int, truD_bl, truD_tup, truD_non, seqW_tup, seqW_ref, enumW_tup, enumW_ref, revW_tup, revW_ref, rngW1_int, rngW2_int, slD_tup, slD_ref, slD_frl, popD_ref, appendD_ref, extendD_ref, setD_ref, bindG_nm, bindG_tup, bindGs_nil, bindGs_cons, ixD_ref, startD, List.map_cons, List.map_nil, List.length_cons, List.length_nil, List.cons_append, List.nil_append, List.getElem?_cons_zero, List.getElem?_cons_succ, List.set_cons_zero, List.set_cons_succ, Option.some.injEq, exists_eq_left', exists_eq_left, Option.bind_some, Nat.reduceAdd, Nat.reduceSub, List.replicate_succ, List.replicate_zero, Dt.bl.injEq, Dt.int.injEq, decide_eq_true_eq, Bool.false_eq_true, if_true, if_false, Bool.not_eq_true', Bool.not_true, Bool.not_false, bne_iff_ne, ne_eq, ixD_fr0, ixD_fr1, ixD_pair0, ixD_pair1, Dt.ref.injEq, List.cons.injEq, and_true, true_and, reduceIte, exists_eq, Nat.zero_add, Dt.tup.injEq, and_self, and_assoc, exists_and_left, fr_inj, pl_inj, ite_true, ite_false]
  split
  · rename_i hx
    refine ⟨_, fun _ _ h => h, by omega, y % m, Nat.mod_lt _ (by omega), rfl, m, ?_, rfl⟩
    rw [← hg]
    exact (Nat.gcd_rec m y).symm
  · rename_i hx
    have e : m = 0 := by omega
    subst e
    rw [Nat.gcd_zero_left] at hg
    rw [hg]
    exact rt_of hQ
theorem len_common_divisor : ∀ ds S Q R, sp_common_divisor ds S Q R → ds.length = 2 := by
  rintro ds S Q R ⟨a, b, rfl, _⟩; rfl
/-! ### sizes -/
def Sz (n : Nat) (q : Rat) : Prop := q.num.natAbs < 2 ^ n ∧ q.den < 2 ^ n
theorem log2_lt {n k : Nat} (h : n < 2 ^ k) (hk : 0 < k) : n.log2 < k := by
  by_cases hn : n = 0
  · subst hn; simpa using hk
  · exact (Nat.log2_lt hn).mpr h
theorem mul_lt_pow {a b m n : Nat} (ha : a < 2 ^ m) (hb : b < 2 ^ n) : a * b < 2 ^ (m + n) := by
  rw [Nat.pow_add]
  by_cases h : b = 0
  · subst h; rw [Nat.mul_zero]; exact Nat.mul_pos (Nat.two_pow_pos _) (Nat.two_pow_pos _)
  · exact Nat.mul_lt_mul_of_lt_of_le ha (Nat.le_of_lt hb) (by omega)
theorem mulOk_of {a b : Int} {m n : Nat} (ha : a.natAbs < 2 ^ m) (hb : b.natAbs < 2 ^ n) (h : m + n < 900000) : mulOk a b := by
  have h1 := log2_lt (k := m + 1) (Nat.lt_of_lt_of_le ha (Nat.pow_le_pow_right (by omega) (by omega))) (by omega)
  have h2 := log2_lt (k := n + 1) (Nat.lt_of_lt_of_le hb (Nat.pow_le_pow_right (by omega) (by omega))) (by omega)
  show CMulW a b
  unfold CMulW
  omega
/-! ### made, plus, times -/
def sp_made : SpD := fun ds S Q _ => ∃ a b : Int, ds = [.int a, .int b] ∧ b ≠ 0 ∧ b.natAbs.log2 < 9000 ∧ Q (fr (Rat.divInt a b)) S
def t_made : RS := rsSeq (rsIf (rTest (rBin (cmpD fun i j => decide (i < j)) (rVar 1) (rC (Dt.int 0)))) (rsPar 0 1 (rCons (rNeg (rVar 0)) (rCons (rNeg (rVar 1)) rNil))) rsNext) (rsSeq (rsAsg (rCall sp_common_divisor (rCons (rVar 0) (rCons (rVar 1) rNil))) (Tg.nm 2)) (rsRet (rTup (rCons (rBin fdivD (rVar 0) (rVar 2)) (rCons (rBin fdivD (rVar 1) (rVar 2)) rNil)))))
theorem gcd_pos {a b : Int} (h : b ≠ 0) : 0 < Int.gcd a b := Int.gcd_pos_of_ne_zero_right a h
theorem gcd_log {a b : Int} (h : b ≠ 0) (hl : b.natAbs.log2 < 9000) : (Int.gcd a b).log2 < 9000 := by
  have h1 : Int.gcd a b ≤ b.natAbs := Nat.le_of_dvd (by omega) (Int.gcd_dvd_natAbs_right a b)
  have h2 : b.natAbs < 2 ^ 9000 := (Nat.log2_lt (by omega)).mp hl
  exact log2_lt (Nat.lt_of_le_of_lt h1 h2) (by omega)
theorem fr_divInt {a b : Int} (h : 0 < b) : fr (Rat.divInt a b) = .tup [.int (a / (Int.gcd a b : Nat)), .int (b / (Int.gcd a b : Nat))] := by
  unfold fr
  rw [Rat.num_divInt, Rat.den_divInt, Int.sign_eq_one_of_pos h, Int.one_mul, if_neg (by omega), Int.gcd_comm b a]
  have : ((b.natAbs / Int.gcd a b : Nat) : Int) = b / (Int.gcd a b : Nat) := by
    rw [Int.natCast_ediv]
    congr 1
    omega
  rw [this]
theorem divInt_add (a b : Rat) : Rat.divInt (a.num * b.den + b.num * a.den) (a.den * b.den) = a + b := by
  rw [Rat.add_def', ← Rat.divInt_ofNat]
  rfl
theorem divInt_mul (a b : Rat) : Rat.divInt (a.num * b.num) (a.den * b.den) = a * b := by
  have := Rat.divInt_mul_divInt a.num b.num (d₁ := a.den) (d₂ := b.den)
  rw [Rat.num_divInt_den, Rat.num_divInt_den] at this
  exact this.symm
theorem hw_made : ∀ ds St Q R, sp_made ds St Q R → t_made (endsD Q R) (startD ["above", "below", "common"] ds) St := by
  rintro ds S Q R ⟨a, b, rfl, h0, hl, hQ⟩
  simp only [t_made, sp_common_divisor, rsFor, rLc, wipeD, rsNext, rsSeq, rsDrop, rsRet, rsRetN, rsIf, rsAsg, rsPar, rsPar3, rsAug, rsSet, rsBreak, rsCont, rVar, rC, rBin, rTru, rTest, rChain, rNeg, rNot, rAnd, rOr, rIf, rAndV, rOrV, rNotV, rNil, rCons, rTup, rLst, rNone, rSome, rSl, rCall, rCallK, rBlt, rLRev, rMeth, rMeth0, rYes, wSeq, wEnum, wRev, wRng1, wRng2, addD_int, addD_tup, addD_str, addD_ref, subD_int, mulD_int, mulD_ref, mulD_tup, fdivD_int, modD_int, powD_int, cmpD_int, isD_non, isnD_non, iaddD_int, isNon_non, isNon_int, isNon_str, isNon_tup, isNon_fr, isNon_bl, eqD_int, neD_int, absD_int, intD_int, intD_bl, lenD_tup, lenD_ref, lenD_pl, listD_pl, tupleD_pl, seqW_pl, enumW_pl, revW_pl, slD_pl, isNon_pl, addD_pl, listD_tup, listD_ref, tupleD_tup, tupleD_ref, max2D_int, min2D_int, truD_int, truD_bl, truD_tup, truD_non, seqW_tup, seqW_ref, enumW_tup, enumW_ref, revW_tup, revW_ref, rngW1_int, rngW2_int, slD_tup, slD_ref, slD_frl, popD_ref, appendD_ref, extendD_ref, setD_ref, bindG_nm, bindG_tup, bindGs_nil, bindGs_cons, ixD_ref, startD, List.map_cons, List.map_nil, List.length_cons, List.length_nil, List.cons_append, List.nil_append, List.getElem?_cons_zero, List.getElem?_cons_succ, List.set_cons_zero, List.set_cons_succ, Option.some.injEq, exists_eq_left', exists_eq_left, Option.bind_some, Nat.reduceAdd, Nat.reduceSub, List.replicate_succ, List.replicate_zero, Dt.bl.injEq, Dt.int.injEq, decide_eq_true_eq, Bool.false_eq_true, if_true, if_false, Bool.not_eq_true', Bool.not_true, Bool.not_false, bne_iff_ne, ne_eq, ixD_fr0, ixD_fr1, ixD_pair0, ixD_pair1, Dt.ref.injEq, List.cons.injEq, and_true, true_and, reduceIte, exists_eq, Nat.zero_add, Dt.tup.injEq, and_self, and_assoc, exists_and_left, fr_inj, pl_inj, ite_true, ite_false]
  split
  · rename_i hb
    have g0 : 0 < Int.gcd (-a) (-b) := gcd_pos (by omega)
    have gl : (Int.gcd (-a) (-b)).log2 < 9000 := gcd_log (by omega) (by rw [Int.natAbs_neg]; exact hl)
    refine ⟨⟨by omega, gl⟩, ⟨by omega, gl⟩, by decide, rt_of ?_⟩
    have e : Rat.divInt a b = Rat.divInt (-a) (-b) := by
      rw [Rat.divInt_neg', Int.neg_neg]
    rw [e, fr_divInt (by omega)] at hQ
    exact hQ
  · have g0 : 0 < Int.gcd a b := gcd_pos h0
    have gl : (Int.gcd a b).log2 < 9000 := gcd_log h0 hl
    refine ⟨⟨by omega, gl⟩, ⟨by omega, gl⟩, by decide, rt_of ?_⟩
    rw [fr_divInt (by omega)] at hQ
    exact hQ
theorem len_made : ∀ ds S Q R, sp_made ds S Q R → ds.length = 2 := by
  rintro ds S Q R ⟨a, b, rfl, _⟩; rfl
def sp_plus : SpD := fun ds S Q _ => ∃ a b : Rat, ds = [fr a, fr b] ∧ (Sz 4000 a ∧ Sz 4000 b) ∧ Q (fr (a + b)) S
def t_plus : RS := rsSeq (rsIf (rTest (rChain eqD eqD (rBin ixD (rVar 0) (rC (Dt.int 1))) (rBin ixD (rVar 1) (rC (Dt.int 1))) (rC (Dt.int 1)))) (rsRet (rTup (rCons (rBin addD (rBin ixD (rVar 0) (rC (Dt.int 0))) (rBin ixD (rVar 1) (rC (Dt.int 0)))) (rCons (rC (Dt.int 1)) rNil)))) rsNext) (rsRet (rCall sp_made (rCons (rBin addD (rBin mulD (rBin ixD (rVar 0) (rC (Dt.int 0))) (rBin ixD (rVar 1) (rC (Dt.int 1)))) (rBin mulD (rBin ixD (rVar 1) (rC (Dt.int 0))) (rBin ixD (rVar 0) (rC (Dt.int 1))))) (rCons (rBin mulD (rBin ixD (rVar 0) (rC (Dt.int 1))) (rBin ixD (rVar 1) (rC (Dt.int 1)))) rNil))))
theorem hw_plus : ∀ ds St Q R, sp_plus ds St Q R → t_plus (endsD Q R) (startD ["one", "other"] ds) St := by
  rintro ds S Q R ⟨a, b, rfl, ⟨ha, hb⟩, hQ⟩
  simp only [t_plus, sp_made, rsFor, rLc, wipeD, rsNext, rsSeq, rsDrop, rsRet, rsRetN, rsIf, rsAsg, rsPar, rsPar3, rsAug, rsSet, rsBreak, rsCont, rVar, rC, rBin, rTru, rTest, rChain, rNeg, rNot, rAnd, rOr, rIf, rAndV, rOrV, rNotV, rNil, rCons, rTup, rLst, rNone, rSome, rSl, rCall, rCallK, rBlt, rLRev, rMeth, rMeth0, rYes, wSeq, wEnum, wRev, wRng1, wRng2, addD_int, addD_tup, addD_str, addD_ref, subD_int, mulD_int, mulD_ref, mulD_tup, fdivD_int, modD_int, powD_int, cmpD_int, isD_non, isnD_non, iaddD_int, isNon_non, isNon_int, isNon_str, isNon_tup, isNon_fr, isNon_bl, eqD_int, neD_int, absD_int, intD_int, intD_bl, lenD_tup, lenD_ref, lenD_pl, listD_pl, tupleD_pl, seqW_pl, enumW_pl, revW_pl, slD_pl, isNon_pl, addD_pl, listD_tup, listD_ref, tupleD_tup, tupleD_ref, max2D_int, min2D_int, truD_int, truD_bl, truD_tup, truD_non, seqW_tup, seqW_ref, enumW_tup, enumW_ref, revW_tup, revW_ref, rngW1_int, rngW2_int, slD_tup, slD_ref, slD_frl, popD_ref, appendD_ref, extendD_ref, setD_ref, bindG_nm, bindG_tup, bindGs_nil, bindGs_cons, ixD_ref, startD, List.map_cons, List.map_nil, List.length_cons, List.length_nil, List.cons_append, List.nil_append, List.getElem?_cons_zero, List.getElem?_cons_succ, List.set_cons_zero, List.set_cons_succ, Option.some.injEq, exists_eq_left', exists_eq_left, Option.bind_some, Nat.reduceAdd, Nat.reduceSub, List.replicate_succ, List.replicate_zero, Dt.bl.injEq, Dt.int.injEq, decide_eq_true_eq, Bool.false_eq_true, if_true, if_false, Bool.not_eq_true', Bool.not_true, Bool.not_false, bne_iff_ne, ne_eq, ixD_fr0, ixD_fr1, ixD_pair0, ixD_pair1, Dt.ref.injEq, List.cons.injEq, and_true, true_and, reduceIte, exists_eq, Nat.zero_add, Dt.tup.injEq, and_self, and_assoc, exists_and_left, fr_inj, pl_inj, ite_true, ite_false]
  have d1 : (0 : Int) < a.den := by have := a.den_pos; omega
  have d2 : (0 : Int) < b.den := by have := b.den_pos; omega
  have nn : ∀ n : Nat, ((n : Nat) : Int).natAbs = n := fun n => rfl
  have big : mulOk a.num ↑b.den ∧ mulOk b.num ↑a.den ∧ mulOk ↑a.den ↑b.den ∧ ¬(a.den : Int) * ↑b.den = 0 ∧ ((a.den : Int) * ↑b.den).natAbs.log2 < 9000 ∧ (endsD Q R).rt (fr (Rat.divInt (a.num * ↑b.den + b.num * ↑a.den) (↑a.den * ↑b.den))) S := by
    refine ⟨mulOk_of ha.1 (by rw [nn]; exact hb.2) (by omega), mulOk_of hb.1 (by rw [nn]; exact ha.2) (by omega), mulOk_of (by rw [nn]; exact ha.2) (by rw [nn]; exact hb.2) (by omega), ?_, ?_, rt_of ?_⟩
    · have := Int.mul_pos d1 d2; omega
    · rw [Int.natAbs_mul, nn, nn]
      exact log2_lt (Nat.lt_of_lt_of_le (mul_lt_pow ha.2 hb.2) (Nat.pow_le_pow_right (by omega) (by omega))) (by omega)
    · rw [divInt_add]
      exact hQ
  split
  · split
    · refine ⟨by decide, rt_of ?_⟩
      have e1 : b.den = 1 := by omega
      have e2 : a.den = 1 := by omega
      rw [← divInt_add, e1, e2] at hQ
      have := fr_divInt (a := a.num * (1 : Nat) + b.num * (1 : Nat)) (b := (1 : Nat) * (1 : Nat)) (by decide)
      rw [this] at hQ
      simpa using hQ
    · exact big
  · exact big
theorem len_plus : ∀ ds S Q R, sp_plus ds S Q R → ds.length = 2 := by
  rintro ds S Q R ⟨a, b, rfl, _⟩; rfl
def sp_times : SpD := fun ds S Q _ => ∃ a b : Rat, ds = [fr a, fr b] ∧ (Sz 4000 a ∧ Sz 4000 b) ∧ Q (fr (a * b)) S
def t_times : RS := rsRet (rCall sp_made (rCons (rBin mulD (rBin ixD (rVar 0) (rC (Dt.int 0))) (rBin ixD (rVar 1) (rC (Dt.int 0)))) (rCons (rBin mulD (rBin ixD (rVar 0) (rC (Dt.int 1))) (rBin ixD (rVar 1) (rC (Dt.int 1)))) rNil)))
theorem hw_times : ∀ ds St Q R, sp_times ds St Q R → t_times (endsD Q R) (startD ["one", "other"] ds) St := by
  rintro ds S Q R ⟨a, b, rfl, ⟨ha, hb⟩, hQ⟩
  simp only [t_times, sp_made, rsFor, rLc, wipeD, rsNext, rsSeq, rsDrop, rsRet, rsRetN, rsIf, rsAsg, rsPar, rsPar3, rsAug, rsSet, rsBreak, rsCont, rVar, rC, rBin, rTru, rTest, rChain, rNeg, rNot, rAnd, rOr, rIf, rAndV, rOrV, rNotV, rNil, rCons, rTup, rLst, rNone, rSome, rSl, rCall, rCallK, rBlt, rLRev, rMeth, rMeth0, rYes, wSeq, wEnum, wRev, wRng1, wRng2, addD_int, addD_tup, addD_str, addD_ref, subD_int, mulD_int, mulD_ref, mulD_tup, fdivD_int, modD_int, powD_int, cmpD_int, isD_non, isnD_non, iaddD_int, isNon_non, isNon_int, isNon_str, isNon_tup, isNon_fr, isNon_bl, eqD_int, neD_int, absD_int, intD_int, intD_bl, lenD_tup, lenD_ref, lenD_pl, listD_pl, tupleD_pl, seqW_pl, enumW_pl, revW_pl, slD_pl, isNon_pl, addD_pl, listD_tup, listD_ref, tupleD_tup, tupleD_ref, max2D_int, min2D_int, truD_int, truD_bl, truD_tup, truD_non, seqW_tup, seqW_ref, enumW_tup, enumW_ref, revW_tup, revW_ref, rngW1_int, rngW2_int, slD_tup, slD_ref, slD_frl, popD_ref, appendD_ref, extendD_ref, setD_ref, bindG_nm, bindG_tup, bindGs_nil, bindGs_cons, ixD_ref, startD, List.map_cons, List.map_nil, List.length_cons, List.length_nil, List.cons_append, List.nil_append, List.getElem?_cons_zero, List.getElem?_cons_succ, List.set_cons_zero, List.set_cons_succ, Option.some.injEq, exists_eq_left', exists_eq_left, Option.bind_some, Nat.reduceAdd, Nat.reduceSub, List.replicate_succ, List.replicate_zero, Dt.bl.injEq, Dt.int.injEq, decide_eq_true_eq, Bool.false_eq_true, if_true, if_false, Bool.not_eq_true', Bool.not_true, Bool.not_false, bne_iff_ne, ne_eq, ixD_fr0, ixD_fr1, ixD_pair0, ixD_pair1, Dt.ref.injEq, List.cons.injEq, and_true, true_and, reduceIte, exists_eq, Nat.zero_add, Dt.tup.injEq, and_self, and_assoc, exists_and_left, fr_inj, pl_inj, ite_true, ite_false]
  have d1 : (0 : Int) < a.den := by have := a.den_pos; omega
  have d2 : (0 : Int) < b.den := by have := b.den_pos; omega
  have nn : ∀ n : Nat, ((n : Nat) : Int).natAbs = n := fun n => rfl
  refine ⟨mulOk_of ha.1 hb.1 (by omega), mulOk_of (by rw [nn]; exact ha.2) (by rw [nn]; exact hb.2) (by omega), ?_, ?_, rt_of ?_⟩
  · have := Int.mul_pos d1 d2; omega
  · rw [Int.natAbs_mul, nn, nn]
    exact log2_lt (Nat.lt_of_lt_of_le (mul_lt_pow ha.2 hb.2) (Nat.pow_le_pow_right (by omega) (by omega))) (by omega)
  · rw [divInt_mul]
    exact hQ
theorem len_times : ∀ ds S Q R, sp_times ds S Q R → ds.length = 2 := by
  rintro ds S Q R ⟨a, b, rfl, _⟩; rfl
end Ev

namespace Ev
open PySem PySem.Spec PyProof.Rows L2
/-! ### the law's own drawing -/
section
variable {S S' : Sto} {Q : QD} {a b : Addr}
theorem lst_same {xs : List Dt} : lstOf (put S a (.lst xs)) a = some xs := by simp [lstOf, put_same]
theorem lst_ne {o : Ob} (h : b ≠ a) : lstOf (put S a o) b = lstOf S b := by simp [lstOf, put_ne h]
theorem lst_of {xs : List Dt} (h : S a = some (.lst xs)) : lstOf S a = some xs := by simp [lstOf, h]
theorem at0 {x : Dt} {xs : List Dt} : atD (x :: xs) 0 = some x := by simp [atD, ixN]
theorem at1 {x y : Dt} {xs : List Dt} : atD (x :: y :: xs) 1 = some y := by
  have : ixN (x :: y :: xs).length 1 = some 1 := by
    unfold ixN
    simp only [List.length_cons]
    rw [if_pos (by decide), if_pos (by omega)]
    rfl
  unfold atD
  rw [this]; rfl
theorem at2 {x y z : Dt} {xs : List Dt} : atD (x :: y :: z :: xs) 2 = some z := by
  have : ixN (x :: y :: z :: xs).length 2 = some 2 := by
    unfold ixN
    simp only [List.length_cons]
    rw [if_pos (by decide), if_pos (by omega)]
    rfl
  unfold atD
  rw [this]; rfl
end
/-- what stays but a, b -/
def Keep (a b : Addr) (S S' : Sto) : Prop := ∀ c o, c ≠ a → c ≠ b → S c = some o → S' c = some o
theorem Keep.refl {a b : Addr} {S : Sto} : Keep a b S S := fun _ _ _ _ h => h
theorem Keep.trans {a b : Addr} {S S1 S2 : Sto} (h : Keep a b S S1) (h2 : Keep a b S1 S2) : Keep a b S S2 := fun c o n m e => h2 c o n m (h c o n m e)
theorem Keep.new {a b p : Addr} {S : Sto} {o : Ob} (h : S p = none) : Keep a b S (put S p o) := fun c ob _ _ e => by
  rw [put_ne (fun z => by rw [z, h] at e; cases e)]; exact e
theorem Keep.putA {a b : Addr} {S : Sto} {o : Ob} : Keep a b S (put S a o) := fun c ob n _ e => by rw [put_ne n]; exact e
theorem Keep.putB {a b : Addr} {S : Sto} {o : Ob} : Keep a b S (put S b o) := fun c ob _ n e => by rw [put_ne n]; exact e
def iL (ns : List Int) : List Dt := ns.map Dt.int
structure BagC (S : Sto) (a b : Addr) (cs : List Int) (x y : Int) : Prop where
  ne : a ≠ b
  A : S a = some (.lst [.ref b, .int x, .int y])
  B : S b = some (.lst (iL cs))
  c0 : ∀ c ∈ cs, 0 ≤ c
  x0 : 0 ≤ x
  y0 : 0 ≤ y
  y1 : y < 2147483647
def BagAt (S : Sto) (a b : Addr) : Prop := ∃ cs x y, BagC S a b cs x y
theorem BagC.new {S : Sto} {a b p : Addr} {cs : List Int} {x y : Int} {o : Ob} (h : BagC S a b cs x y) (hp : S p = none) : BagC (put S p o) a b cs x y ∧ p ≠ a ∧ p ≠ b := by
  have h1 : p ≠ a := fun e => by rw [e, h.A] at hp; cases hp
  have h2 : p ≠ b := fun e => by rw [e, h.B] at hp; cases hp
  exact ⟨⟨h.ne, by rw [put_ne h1.symm]; exact h.A, by rw [put_ne h2.symm]; exact h.B, h.c0, h.x0, h.y0, h.y1⟩, h1, h2⟩
theorem BagAt.new {S : Sto} {a b p : Addr} {o : Ob} (h : BagAt S a b) (hp : S p = none) : BagAt (put S p o) a b := by
  obtain ⟨cs, x, y, h⟩ := h
  exact ⟨cs, x, y, (h.new hp).1⟩
theorem BagAt.nep {S : Sto} {a b p : Addr} (h : BagAt S a b) (hp : S p = none) : p ≠ a ∧ p ≠ b := by
  obtain ⟨cs, x, y, h⟩ := h
  exact (h.new (o := .lst []) hp).2
/-- another object is written -/
theorem BagAt.other {S : Sto} {a b p : Addr} {o : Ob} (h : BagAt S a b) (h1 : p ≠ a) (h2 : p ≠ b) : BagAt (put S p o) a b := by
  obtain ⟨cs, x, y, h⟩ := h
  exact ⟨cs, x, y, h.ne, by rw [put_ne h1.symm]; exact h.A, by rw [put_ne h2.symm]; exact h.B, h.c0, h.x0, h.y0, h.y1⟩
theorem dp_ints {S : Sto} : ∀ ns : List Int, DPs S (iL ns) (ns.map PyData.int)
  | [] => .nil
  | n :: ns => .cons (.int n) (dp_ints ns)
theorem lay_ints : ∀ ns : List Int, PyData.canLayAll0 (ns.map PyData.int) = true
  | [] => by simp [PyData.canLayAll0]
  | n :: ns => by simp [PyData.canLayAll0, PyData.canLay0, lay_ints ns]
theorem dep_ints : ∀ ns : List Int, PyData.depthAll (ns.map PyData.int) = 0
  | [] => by simp [PyData.depthAll]
  | n :: ns => by simp [PyData.depthAll, PyData.depth, dep_ints ns]
theorem sh_ints (ns : List Int) : SeqAt.shaped (.list (ns.map PyData.int)) = true := by
  simp [SeqAt.shaped, PyData.canLay0, PyData.depth, lay_ints, dep_ints]
theorem eqR_nil {S : Sto} {b p : Addr} {cs : List Int} (hb : lstOf S b = some (iL cs)) (hp : lstOf S p = some []) : eqR S (.ref b) (.ref p) (decide (cs = [])) := by
  refine ⟨_, _, .lst hb (dp_ints cs), .lst hp .nil, sh_ints cs, sh_ints [], ?_⟩
  cases cs with
  | nil => simp [PyData.eqv, PyData.eqvAll]
  | cons c cs => simp [PyData.eqv, PyData.eqvAll]
theorem ixN1 {n : Nat} (h : 2 ≤ n) : ixN n 1 = some 1 := by
  unfold ixN
  split
  · split <;> first | rfl | omega
  · omega
theorem ixN2 {n : Nat} (h : 3 ≤ n) : ixN n 2 = some 2 := by
  unfold ixN
  split
  · split <;> first | rfl | omega
  · omega
def sp__law_draw : SpD := fun ds S Q _ => ∃ (a b : Addr) (n : Int), ds = [.ref a, .int n] ∧ (BagAt S a b ∧ 0 < n ∧ n < 2 ^ 1000) ∧ ∀ v S', 0 ≤ v → v < n → BagAt S' a b → Keep a b S S' → Q (.int v) S'
def u__law_draw : RS := rsSeq (rsIf (rTest (rBin (cmpD fun i j => decide (j < i)) (rBin ixD (rVar 0) (rC (Dt.int 1))) (rC (Dt.int 0)))) (rsSeq (rsAsg (rBin modD (rBlt Ev.intD (rCons (rBin ixD (rVar 0) (rC (Dt.int 1))) rNil)) (rVar 1)) (Tg.nm 3)) (rsSeq (rsSet (rBin fdivD (rBlt Ev.intD (rCons (rBin ixD (rVar 0) (rC (Dt.int 1))) rNil)) (rVar 1)) (rVar 0) (rC (Dt.int 1))) (rsRet (rVar 3)))) rsNext) (rsSeq (rsSet (rBin modD (rBlt Ev.intD (rCons (rBin addD (rBin mulD (rBin ixD (rVar 0) (rC (Dt.int 2))) (rC (Dt.int 48271))) (rC (Dt.int 11))) rNil)) (rC (Dt.int 2147483647))) (rVar 0) (rC (Dt.int 2))) (rsRet (rBin modD (rBlt Ev.intD (rCons (rBin fdivD (rBin modD (rBlt Ev.intD (rCons (rBin mulD (rBin ixD (rVar 0) (rC (Dt.int 2))) (rBin ixD (rVar 0) (rC (Dt.int 2)))) rNil)) (rC (Dt.int 2147483629))) (rC (Dt.int 7))) rNil)) (rVar 1))))
def t__law_draw : RS := rsSeq (rsWhile (rAnd (rTest (rBin eqD (rBin ixD (rVar 0) (rC (Dt.int 1))) (rC (Dt.int 0)))) (rTest (rBin neD (rBin ixD (rVar 0) (rC (Dt.int 0))) (rLst rNil)))) (rsSeq (rsAsg (rMeth0 popD (rBin ixD (rVar 0) (rC (Dt.int 0)))) (Tg.nm 2)) (rsSet (rIf (rTest (rBin (cmpD fun i j => decide (j < i)) (rVar 2) (rBin powD (rC (Dt.int 10)) (rC (Dt.int 9))))) (rVar 2) (rC (Dt.int 0))) (rVar 0) (rC (Dt.int 1))))) u__law_draw
theorem BagC.setX {S : Sto} {a b : Addr} {cs : List Int} {x y x' : Int} (h : BagC S a b cs x y) (h0 : 0 ≤ x') : BagC (put S a (.lst [.ref b, .int x', .int y])) a b cs x' y :=
  ⟨h.ne, put_same, by rw [put_ne h.ne.symm]; exact h.B, h.c0, h0, h.y0, h.y1⟩
theorem BagC.setY {S : Sto} {a b : Addr} {cs : List Int} {x y y' : Int} (h : BagC S a b cs x y) (h0 : 0 ≤ y') (h1 : y' < 2147483647) : BagC (put S a (.lst [.ref b, .int x, .int y'])) a b cs x y' :=
  ⟨h.ne, put_same, by rw [put_ne h.ne.symm]; exact h.B, h.c0, h.x0, h0, h1⟩
theorem mulOk31 {a b : Int} (ha : 0 ≤ a) (ha2 : a < 2147483647) (hb : 0 ≤ b) (hb2 : b < 2147483647) : mulOk a b := mulOk_of (m := 31) (n := 31) (by omega) (by omega) (by omega)
theorem divOk_of {n : Int} (h : 0 < n) (h2 : n < 2 ^ 1000) : divOk n := ⟨h, log2_lt (k := 9000) (Nat.lt_of_lt_of_le (show n.natAbs < 2 ^ 1000 by omega) (Nat.pow_le_pow_right (by omega) (by omega))) (by omega)⟩
theorem tail__law_draw {S S1 : Sto} {Q : QD} {R : XD → Sto → Prop} {a b : Addr} {n : Int} {cs : List Int} {x y : Int} {o : Option Dt} (h0 : 0 < n) (h1 : n < 2 ^ 1000) (hQ : ∀ v S', 0 ≤ v → v < n → BagAt S' a b → Keep a b S S' → Q (Dt.int v) S') (hB : BagC S1 a b cs x y) (hK : Keep a b S S1) :
    u__law_draw (endsD Q R) [some (.ref a), some (.int n), o, none] S1 := by
  have l1 := lst_of hB.A
  simp only [u__law_draw, rsFor, rLc, wipeD, rsNext, rsSeq, rsDrop, rsRet, rsRetN, rsIf, rsAsg, rsPar, rsPar3, rsAug, rsSet, rsBreak, rsCont, rVar, rC, rBin, rTru, rTest, rChain, rNeg, rNot, rAnd, rOr, rIf, rAndV, rOrV, rNotV, rNil, rCons, rTup, rLst, rNone, rSome, rSl, rCall, rCallK, rBlt, rLRev, rMeth, rMeth0, rYes, wSeq, wEnum, wRev, wRng1, wRng2, addD_int, addD_tup, addD_str, addD_ref, subD_int, mulD_int, mulD_ref, mulD_tup, fdivD_int, modD_int, powD_int, cmpD_int, isD_non, isnD_non, iaddD_int, isNon_non, isNon_int, isNon_str, isNon_tup, isNon_fr, isNon_bl, eqD_int, neD_int, absD_int, intD_int, intD_bl, lenD_tup, lenD_ref, lenD_pl, listD_pl, tupleD_pl, seqW_pl, enumW_pl, revW_pl, slD_pl, isNon_pl, addD_pl, listD_tup, listD_ref, tupleD_tup, tupleD_ref, max2D_int, min2D_int, truD_int, truD_bl, truD_tup, truD_non, seqW_tup, seqW_ref, enumW_tup, enumW_ref, revW_tup, revW_ref, rngW1_int, rngW2_int, slD_tup, slD_ref, slD_frl, popD_ref, appendD_ref, extendD_ref, setD_ref, bindG_nm, bindG_tup, bindGs_nil, bindGs_cons, ixD_ref, startD, List.map_cons, List.map_nil, List.length_cons, List.length_nil, List.cons_append, List.nil_append, List.getElem?_cons_zero, List.getElem?_cons_succ, List.set_cons_zero, List.set_cons_succ, Option.some.injEq, exists_eq_left', exists_eq_left, Option.bind_some, Nat.reduceAdd, Nat.reduceSub, List.replicate_succ, List.replicate_zero, Dt.bl.injEq, Dt.int.injEq, decide_eq_true_eq, Bool.false_eq_true, if_true, if_false, Bool.not_eq_true', Bool.not_true, Bool.not_false, bne_iff_ne, ne_eq, ixD_fr0, ixD_fr1, ixD_pair0, ixD_pair1, Dt.ref.injEq, List.cons.injEq, and_true, true_and, reduceIte, exists_eq, Nat.zero_add, Dt.tup.injEq, and_self, and_assoc, exists_and_left, fr_inj, pl_inj, ite_true, ite_false, l1, at0, at1, at2]
  split
  · rename_i hx
    refine ⟨h0, divOk_of h0 h1, _, hB.A, 1, ixN1 (by simp), rt_of ?_⟩
    have hB2 := hB.setX (x' := x / n) (Int.ediv_nonneg hB.x0 (by omega))
    exact hQ _ _ (Int.emod_nonneg _ (by omega)) (Int.emod_lt_of_pos _ h0) ⟨_, _, _, hB2⟩ (hK.trans .putA)
  · refine ⟨mulOk31 hB.y0 hB.y1 (by omega) (by omega), by decide, _, hB.A, 2, ixN2 (by simp), ?_⟩
    have y1 : 0 ≤ (y * 48271 + 11) % 2147483647 := Int.emod_nonneg _ (by omega)
    have y2 : (y * 48271 + 11) % 2147483647 < 2147483647 := Int.emod_lt_of_pos _ (by omega)
    have hB2 := hB.setY y1 y2
    have l2 := lst_of hB2.A
    simp only [List.set_cons_succ, List.set_cons_zero, l2, Option.some.injEq, exists_eq_left', at2, mulD_int, intD_int, modD_int, fdivD_int]
    refine ⟨mulOk31 y1 y2 y1 y2, by decide, ⟨by decide, by decide⟩, h0, rt_of ?_⟩
    exact hQ _ _ (Int.emod_nonneg _ (by omega)) (Int.emod_lt_of_pos _ h0) ⟨_, _, _, hB2⟩ (hK.trans .putA)
theorem iL_last {cs : List Int} (h : cs ≠ []) : (iL cs)[(iL cs).length - 1]? = some (.int (cs.getLast h)) := by
  unfold iL
  rw [List.length_map, List.getElem?_map]
  rw [← List.getLast?_eq_getElem?, List.getLast?_eq_some_getLast h]
  rfl
theorem iL_drop {cs : List Int} : (iL cs).dropLast = iL cs.dropLast := by
  unfold iL
  rw [List.map_dropLast]
theorem hw__law_draw : ∀ ds St Q R, sp__law_draw ds St Q R → t__law_draw (endsD Q R) (startD ["bag", "below", "cell", "found"] ds) St := by
  rintro ds S Q R ⟨a, b, n, rfl, ⟨⟨cs, x, y, hB⟩, h0, h1⟩, hQ⟩
  simp only [t__law_draw, rsFor, rLc, wipeD, rsNext, rsSeq, rsDrop, rsRet, rsRetN, rsIf, rsAsg, rsPar, rsPar3, rsAug, rsSet, rsBreak, rsCont, rVar, rC, rBin, rTru, rTest, rChain, rNeg, rNot, rAnd, rOr, rIf, rAndV, rOrV, rNotV, rNil, rCons, rTup, rLst, rNone, rSome, rSl, rCall, rCallK, rBlt, rLRev, rMeth, rMeth0, rYes, wSeq, wEnum, wRev, wRng1, wRng2, addD_int, addD_tup, addD_str, addD_ref, subD_int, mulD_int, mulD_ref, mulD_tup, fdivD_int, modD_int, powD_int, cmpD_int, isD_non, isnD_non, iaddD_int, isNon_non, isNon_int, isNon_str, isNon_tup, isNon_fr, isNon_bl, eqD_int, neD_int, absD_int, intD_int, intD_bl, lenD_tup, lenD_ref, lenD_pl, listD_pl, tupleD_pl, seqW_pl, enumW_pl, revW_pl, slD_pl, isNon_pl, addD_pl, listD_tup, listD_ref, tupleD_tup, tupleD_ref, max2D_int, min2D_int, truD_int, truD_bl, truD_tup, truD_non, seqW_tup, seqW_ref, enumW_tup, enumW_ref, revW_tup, revW_ref, rngW1_int, rngW2_int, slD_tup, slD_ref, slD_frl, popD_ref, appendD_ref, extendD_ref, setD_ref, bindG_nm, bindG_tup, bindGs_nil, bindGs_cons, ixD_ref, startD, List.map_cons, List.map_nil, List.length_cons, List.length_nil, List.cons_append, List.nil_append, List.getElem?_cons_zero, List.getElem?_cons_succ, List.set_cons_zero, List.set_cons_succ, Option.some.injEq, exists_eq_left', exists_eq_left, Option.bind_some, Nat.reduceAdd, Nat.reduceSub, List.replicate_succ, List.replicate_zero, Dt.bl.injEq, Dt.int.injEq, decide_eq_true_eq, Bool.false_eq_true, if_true, if_false, Bool.not_eq_true', Bool.not_true, Bool.not_false, bne_iff_ne, ne_eq, ixD_fr0, ixD_fr1, ixD_pair0, ixD_pair1, Dt.ref.injEq, List.cons.injEq, and_true, true_and, reduceIte, exists_eq, Nat.zero_add, Dt.tup.injEq, and_self, and_assoc, exists_and_left, fr_inj, pl_inj, ite_true, ite_false]
  refine while_rule (fun m σ S' => ∃ cs x y o, m = cs.length ∧ BagC S' a b cs x y ∧ Keep a b S S' ∧ σ = [some (.ref a), some (.int n), o, none]) cs.length ⟨cs, x, y, none, rfl, hB, .refl, rfl⟩ ?_
  rintro m σ S' ⟨cs, x, y, o, rfl, hB, hK, rfl⟩
  have l1 := lst_of hB.A
  have l2 := lst_of hB.B
  simp only [rsFor, rLc, wipeD, rsNext, rsSeq, rsDrop, rsRet, rsRetN, rsIf, rsAsg, rsPar, rsPar3, rsAug, rsSet, rsBreak, rsCont, rVar, rC, rBin, rTru, rTest, rChain, rNeg, rNot, rAnd, rOr, rIf, rAndV, rOrV, rNotV, rNil, rCons, rTup, rLst, rNone, rSome, rSl, rCall, rCallK, rBlt, rLRev, rMeth, rMeth0, rYes, wSeq, wEnum, wRev, wRng1, wRng2, addD_int, addD_tup, addD_str, addD_ref, subD_int, mulD_int, mulD_ref, mulD_tup, fdivD_int, modD_int, powD_int, cmpD_int, isD_non, isnD_non, iaddD_int, isNon_non, isNon_int, isNon_str, isNon_tup, isNon_fr, isNon_bl, eqD_int, neD_int, absD_int, intD_int, intD_bl, lenD_tup, lenD_ref, lenD_pl, listD_pl, tupleD_pl, seqW_pl, enumW_pl, revW_pl, slD_pl, isNon_pl, addD_pl, listD_tup, listD_ref, tupleD_tup, tupleD_ref, max2D_int, min2D_int, truD_int, truD_bl, truD_tup, truD_non, seqW_tup, seqW_ref, enumW_tup, enumW_ref, revW_tup, revW_ref, rngW1_int, rngW2_int, slD_tup, slD_ref, slD_frl, popD_ref, appendD_ref, extendD_ref, setD_ref, bindG_nm, bindG_tup, bindGs_nil, bindGs_cons, ixD_ref, startD, List.map_cons, List.map_nil, List.length_cons, List.length_nil, List.cons_append, List.nil_append, List.getElem?_cons_zero, List.getElem?_cons_succ, List.set_cons_zero, List.set_cons_succ, Option.some.injEq, exists_eq_left', exists_eq_left, Option.bind_some, Nat.reduceAdd, Nat.reduceSub, List.replicate_succ, List.replicate_zero, Dt.bl.injEq, Dt.int.injEq, decide_eq_true_eq, Bool.false_eq_true, if_true, if_false, Bool.not_eq_true', Bool.not_true, Bool.not_false, bne_iff_ne, ne_eq, ixD_fr0, ixD_fr1, ixD_pair0, ixD_pair1, Dt.ref.injEq, List.cons.injEq, and_true, true_and, reduceIte, exists_eq, Nat.zero_add, Dt.tup.injEq, and_self, and_assoc, exists_and_left, fr_inj, pl_inj, ite_true, ite_false, l1, at0, at1, at2]
  split
  · rename_i hx
    refine ⟨by decide, fun p hp => ?_⟩
    obtain ⟨hB2, p1, p2⟩ := hB.new (o := .lst []) hp
    refine neD_of (eqR_nil (lst_of hB2.B) lst_same) ?_
    have l3 := lst_of hB2.A
    simp only [rsFor, rLc, wipeD, rsNext, rsSeq, rsDrop, rsRet, rsRetN, rsIf, rsAsg, rsPar, rsPar3, rsAug, rsSet, rsBreak, rsCont, rVar, rC, rBin, rTru, rTest, rChain, rNeg, rNot, rAnd, rOr, rIf, rAndV, rOrV, rNotV, rNil, rCons, rTup, rLst, rNone, rSome, rSl, rCall, rCallK, rBlt, rLRev, rMeth, rMeth0, rYes, wSeq, wEnum, wRev, wRng1, wRng2, addD_int, addD_tup, addD_str, addD_ref, subD_int, mulD_int, mulD_ref, mulD_tup, fdivD_int, modD_int, powD_int, cmpD_int, isD_non, isnD_non, iaddD_int, isNon_non, isNon_int, isNon_str, isNon_tup, isNon_fr, isNon_bl, eqD_int, neD_int, absD_int, intD_int, intD_bl, lenD_tup, lenD_ref, lenD_pl, listD_pl, tupleD_pl, seqW_pl, enumW_pl, revW_pl, slD_pl, isNon_pl, addD_pl, listD_tup, listD_ref, tupleD_tup, tupleD_ref, max2D_int, min2D_int, truD_int, truD_bl, truD_tup, truD_non, seqW_tup, seqW_ref, enumW_tup, enumW_ref, revW_tup, revW_ref, rngW1_int, rngW2_int, slD_tup, slD_ref, slD_frl, popD_ref, appendD_ref, extendD_ref, setD_ref, bindG_nm, bindG_tup, bindGs_nil, bindGs_cons, ixD_ref, startD, List.map_cons, List.map_nil, List.length_cons, List.length_nil, List.cons_append, List.nil_append, List.getElem?_cons_zero, List.getElem?_cons_succ, List.set_cons_zero, List.set_cons_succ, Option.some.injEq, exists_eq_left', exists_eq_left, Option.bind_some, Nat.reduceAdd, Nat.reduceSub, List.replicate_succ, List.replicate_zero, Dt.bl.injEq, Dt.int.injEq, decide_eq_true_eq, Bool.false_eq_true, if_true, if_false, Bool.not_eq_true', Bool.not_true, Bool.not_false, bne_iff_ne, ne_eq, ixD_fr0, ixD_fr1, ixD_pair0, ixD_pair1, Dt.ref.injEq, List.cons.injEq, and_true, true_and, reduceIte, exists_eq, Nat.zero_add, Dt.tup.injEq, and_self, and_assoc, exists_and_left, fr_inj, pl_inj, ite_true, ite_false, Bool.not_eq_true', decide_eq_false_iff_not, l3, at0, at1, at2]
    split
    · rename_i hne
      refine ⟨_, fun _ _ h => h, ?_⟩
      refine ⟨⟨_, hB2.B⟩, iL cs, hB2.B, _, iL_last hne, ⟨by decide, by decide, by decide⟩, ?_⟩
      have pos : 0 < cs.length := List.length_pos_iff.mpr hne
      have hB3 : BagC (put (put S' p (.lst [])) b (.lst (iL cs.dropLast))) a b cs.dropLast x y :=
        ⟨hB2.ne, by rw [put_ne hB2.ne]; exact hB2.A, put_same, fun c hc => hB2.c0 c (List.dropLast_subset _ hc), hB2.x0, hB2.y0, hB2.y1⟩
      have k3 : Keep a b S (put (put S' p (.lst [])) b (.lst (iL cs.dropLast))) := (hK.trans (.new hp)).trans .putB
      simp only [cmpD_int, rsFor, rLc, wipeD, rsNext, rsSeq, rsDrop, rsRet, rsRetN, rsIf, rsAsg, rsPar, rsPar3, rsAug, rsSet, rsBreak, rsCont, rVar, rC, rBin, rTru, rTest, rChain, rNeg, rNot, rAnd, rOr, rIf, rAndV, rOrV, rNotV, rNil, rCons, rTup, rLst, rNone, rSome, rSl, rCall, rCallK, rBlt, rLRev, rMeth, rMeth0, rYes, wSeq, wEnum, wRev, wRng1, wRng2, addD_int, addD_tup, addD_str, addD_ref, subD_int, mulD_int, mulD_ref, mulD_tup, fdivD_int, modD_int, powD_int, cmpD_int, isD_non, isnD_non, iaddD_int, isNon_non, isNon_int, isNon_str, isNon_tup, isNon_fr, isNon_bl, eqD_int, neD_int, absD_int, intD_int, intD_bl, lenD_tup, lenD_ref, lenD_pl, listD_pl, tupleD_pl, seqW_pl, enumW_pl, revW_pl, slD_pl, isNon_pl, addD_pl, listD_tup, listD_ref, tupleD_tup, tupleD_ref, max2D_int, min2D_int, truD_int, truD_bl, truD_tup, truD_non, seqW_tup, seqW_ref, enumW_tup, enumW_ref, revW_tup, revW_ref, rngW1_int, rngW2_int, slD_tup, slD_ref, slD_frl, popD_ref, appendD_ref, extendD_ref, setD_ref, bindG_nm, bindG_tup, bindGs_nil, bindGs_cons, ixD_ref, startD, List.map_cons, List.map_nil, List.length_cons, List.length_nil, List.cons_append, List.nil_append, List.getElem?_cons_zero, List.getElem?_cons_succ, List.set_cons_zero, List.set_cons_succ, Option.some.injEq, exists_eq_left', exists_eq_left, Option.bind_some, Nat.reduceAdd, Nat.reduceSub, List.replicate_succ, List.replicate_zero, Dt.bl.injEq, Dt.int.injEq, decide_eq_true_eq, Bool.false_eq_true, if_true, if_false, Bool.not_eq_true', Bool.not_true, Bool.not_false, bne_iff_ne, ne_eq, ixD_fr0, ixD_fr1, ixD_pair0, ixD_pair1, Dt.ref.injEq, List.cons.injEq, and_true, true_and, reduceIte, exists_eq, Nat.zero_add, Dt.tup.injEq, and_self, and_assoc, exists_and_left, fr_inj, pl_inj, ite_true, ite_false, iL_drop]
      split
      · refine ⟨_, hB3.A, 1, ixN1 (by simp), cs.dropLast.length, by rw [List.length_dropLast]; omega, _, rfl, _, _, hB3.setX (hB2.c0 _ (List.getLast_mem hne)), k3.trans .putA, _, rfl⟩
      · refine ⟨_, hB3.A, 1, ixN1 (by simp), cs.dropLast.length, by rw [List.length_dropLast]; omega, _, rfl, _, _, hB3.setX (by omega), k3.trans .putA, _, rfl⟩
    · exact tail__law_draw h0 h1 hQ hB2 (hK.trans (.new hp))
  · exact tail__law_draw h0 h1 hQ hB hK
theorem len__law_draw : ∀ ds S Q R, sp__law_draw ds S Q R → ds.length = 2 := by
  rintro ds S Q R ⟨a, b, n, rfl, _⟩; rfl
end Ev

namespace Ev
open PySem PySem.Spec PyProof.Rows L2
theorem put_self {S : Sto} {p : Addr} {o : Ob} (h : S p = some o) : put S p o = S := by
  funext b
  unfold put
  split
  · rename_i e; rw [e, h]
  · rfl
theorem put_put {S : Sto} {p : Addr} {o o' : Ob} : put (put S p o) p o' = put S p o' := by
  funext b
  unfold put
  split <;> rfl
/-- a comprehension whose part tells no state -/
theorem lcGo_pure {t : Tg} {te : RE} {G : Sto → Prop} {p : Addr} {σ : Slo} {E : Sto → Prop} (f : Dt → Dt) : ∀ (items acc : List Dt) (S : Sto), S p = some (.lst acc) → (∀ ys, G (put S p (.lst ys))) → acc.length + items.length ≤ sizeLine →
    (∀ x ∈ items, ∃ σ2, bindG t x σ = some σ2 ∧ ∀ S' (Q : QD), Q (f x) S' → te σ2 S' Q noX) → E (put S p (.lst (acc ++ items.map f))) → lcGo t rYes te G p σ E items S
  | [], acc, S, hp, hG, hl, hx, hE => by
    have g := hG acc
    rw [put_self hp] at g
    rw [List.map_nil, List.append_nil, put_self hp] at hE
    exact ⟨g, hE⟩
  | x :: xs, acc, S, hp, hG, hl, hx, hE => by
    have g := hG acc
    rw [put_self hp] at g
    obtain ⟨σ2, e, h⟩ := hx x (List.mem_cons_self ..)
    refine ⟨g, σ2, e, ?_⟩
    simp only [rYes, if_true]
    refine h S _ ⟨acc, hp, by rw [List.length_cons] at hl; omega, ?_⟩
    refine lcGo_pure f xs (acc ++ [f x]) _ put_same (fun ys => by rw [put_put]; exact hG ys) (by rw [List.length_append]; simp only [List.length_cons, List.length_nil] at *; omega) (fun y hy => hx y (List.mem_cons_of_mem _ hy)) ?_
    rw [put_put, List.append_assoc]
    exact hE
def sp__law_pick : SpD := fun ds S Q _ => ∃ (a b : Addr) (x : Dt) (xs : List Dt), ds = [.ref a, x] ∧ (BagAt S a b ∧ 0 < xs.length ∧ xs.length ≤ 1000 ∧ (x = .tup xs ∨ ∃ c, x = .ref c ∧ c ≠ a ∧ c ≠ b ∧ S c = some (.lst xs))) ∧ ∀ S' d, d ∈ xs → BagAt S' a b → Keep a b S S' → Q d S'
def t__law_pick : RS := rsRet (rBin ixD (rVar 1) (rCall sp__law_draw (rCons (rVar 0) (rCons (rBlt lenD (rCons (rVar 1) rNil)) rNil))))
theorem atD_nat {xs : List Dt} {v : Int} (h0 : 0 ≤ v) (h1 : v < xs.length) : ∃ d, atD xs v = some d ∧ d ∈ xs := by
  have e : ixN xs.length v = some v.toNat := by
    unfold ixN
    rw [if_pos h0, if_pos h1]
  have hl : v.toNat < xs.length := by omega
  refine ⟨xs[v.toNat], ?_, List.getElem_mem hl⟩
  unfold atD
  rw [e]
  simp [hl]
theorem hw__law_pick : ∀ ds St Q R, sp__law_pick ds St Q R → t__law_pick (endsD Q R) (startD ["bag", "some"] ds) St := by
  rintro ds S Q R ⟨a, b, x, xs, rfl, ⟨hB, h0, h1, hx⟩, hQ⟩
  have b1 : (xs.length : Int) < 2 ^ 1000 := Int.lt_of_le_of_lt (show (xs.length : Int) ≤ 1000 by omega) (by decide)
  rcases hx with rfl | ⟨c, rfl, c1, c2, hc⟩
  · simp only [t__law_pick, rsFor, rLc, wipeD, rsNext, rsSeq, rsDrop, rsRet, rsRetN, rsIf, rsAsg, rsPar, rsPar3, rsAug, rsSet, rsBreak, rsCont, rVar, rC, rBin, rTru, rTest, rChain, rNeg, rNot, rAnd, rOr, rIf, rAndV, rOrV, rNotV, rNil, rCons, rTup, rLst, rNone, rSome, rSl, rCall, rCallK, rBlt, rLRev, rMeth, rMeth0, rYes, wSeq, wEnum, wRev, wRng1, wRng2, addD_int, addD_tup, addD_str, addD_ref, subD_int, mulD_int, mulD_ref, mulD_tup, fdivD_int, modD_int, powD_int, cmpD_int, isD_non, isnD_non, iaddD_int, isNon_non, isNon_int, isNon_str, isNon_tup, isNon_fr, isNon_bl, eqD_int, neD_int, absD_int, intD_int, intD_bl, lenD_tup, lenD_ref, lenD_pl, listD_pl, tupleD_pl, seqW_pl, enumW_pl, revW_pl, slD_pl, isNon_pl, addD_pl, listD_tup, listD_ref, tupleD_tup, tupleD_ref, max2D_int, min2D_int, truD_int, truD_bl, truD_tup, truD_non, seqW_tup, seqW_ref, enumW_tup, enumW_ref, revW_tup, revW_ref, rngW1_int, rngW2_int, slD_tup, slD_ref, slD_frl, popD_ref, appendD_ref, extendD_ref, setD_ref, bindG_nm, bindG_tup, bindGs_nil, bindGs_cons, ixD_ref, startD, List.map_cons, List.map_nil, List.length_cons, List.length_nil, List.cons_append, List.nil_append, List.getElem?_cons_zero, List.getElem?_cons_succ, List.set_cons_zero, List.set_cons_succ, Option.some.injEq, exists_eq_left', exists_eq_left, Option.bind_some, Nat.reduceAdd, Nat.reduceSub, List.replicate_succ, List.replicate_zero, Dt.bl.injEq, Dt.int.injEq, decide_eq_true_eq, Bool.false_eq_true, if_true, if_false, Bool.not_eq_true', Bool.not_true, Bool.not_false, bne_iff_ne, ne_eq, ixD_fr0, ixD_fr1, ixD_pair0, ixD_pair1, Dt.ref.injEq, List.cons.injEq, and_true, true_and, reduceIte, exists_eq, Nat.zero_add, Dt.tup.injEq, and_self, and_assoc, exists_and_left, fr_inj, pl_inj, ite_true, ite_false, sp__law_draw]
    refine ⟨b, hB, by omega, b1, fun v S' v0 v1 hB' hK => ?_⟩
    obtain ⟨d, e, hd⟩ := atD_nat v0 v1
    simp only [ixD_tup]
    exact ⟨d, e, rt_of (hQ S' d hd hB' hK)⟩
  · simp only [t__law_pick, rsFor, rLc, wipeD, rsNext, rsSeq, rsDrop, rsRet, rsRetN, rsIf, rsAsg, rsPar, rsPar3, rsAug, rsSet, rsBreak, rsCont, rVar, rC, rBin, rTru, rTest, rChain, rNeg, rNot, rAnd, rOr, rIf, rAndV, rOrV, rNotV, rNil, rCons, rTup, rLst, rNone, rSome, rSl, rCall, rCallK, rBlt, rLRev, rMeth, rMeth0, rYes, wSeq, wEnum, wRev, wRng1, wRng2, addD_int, addD_tup, addD_str, addD_ref, subD_int, mulD_int, mulD_ref, mulD_tup, fdivD_int, modD_int, powD_int, cmpD_int, isD_non, isnD_non, iaddD_int, isNon_non, isNon_int, isNon_str, isNon_tup, isNon_fr, isNon_bl, eqD_int, neD_int, absD_int, intD_int, intD_bl, lenD_tup, lenD_ref, lenD_pl, listD_pl, tupleD_pl, seqW_pl, enumW_pl, revW_pl, slD_pl, isNon_pl, addD_pl, listD_tup, listD_ref, tupleD_tup, tupleD_ref, max2D_int, min2D_int, truD_int, truD_bl, truD_tup, truD_non, seqW_tup, seqW_ref, enumW_tup, enumW_ref, revW_tup, revW_ref, rngW1_int, rngW2_int, slD_tup, slD_ref, slD_frl, popD_ref, appendD_ref, extendD_ref, setD_ref, bindG_nm, bindG_tup, bindGs_nil, bindGs_cons, ixD_ref, startD, List.map_cons, List.map_nil, List.length_cons, List.length_nil, List.cons_append, List.nil_append, List.getElem?_cons_zero, List.getElem?_cons_succ, List.set_cons_zero, List.set_cons_succ, Option.some.injEq, exists_eq_left', exists_eq_left, Option.bind_some, Nat.reduceAdd, Nat.reduceSub, List.replicate_succ, List.replicate_zero, Dt.bl.injEq, Dt.int.injEq, decide_eq_true_eq, Bool.false_eq_true, if_true, if_false, Bool.not_eq_true', Bool.not_true, Bool.not_false, bne_iff_ne, ne_eq, ixD_fr0, ixD_fr1, ixD_pair0, ixD_pair1, Dt.ref.injEq, List.cons.injEq, and_true, true_and, reduceIte, exists_eq, Nat.zero_add, Dt.tup.injEq, and_self, and_assoc, exists_and_left, fr_inj, pl_inj, ite_true, ite_false, sp__law_draw, lst_of hc]
    refine ⟨b, hB, by omega, b1, fun v S' v0 v1 hB' hK => ?_⟩
    obtain ⟨d, e, hd⟩ := atD_nat v0 v1
    exact ⟨xs, lst_of (hK c _ c1 c2 hc), d, e, rt_of (hQ S' d hd hB' hK)⟩
theorem len__law_pick : ∀ ds S Q R, sp__law_pick ds S Q R → ds.length = 2 := by
  rintro ds S Q R ⟨a, b, x, xs, rfl, _⟩; rfl
/-! ### the bag -/
def sp__law_own_bag : SpD := fun ds S Q _ => ∃ ns : List Int, ds = [.frl (iL ns)] ∧ ns.length ≤ 63 ∧ ∀ a b S', BagAt S' a b → Q (.ref a) S'
def tb_of (n : Int) : RS := rsSeq (rsAsg (rLc (wSeq (rSl (rVar 0) rNone (rSome (rC (Dt.int 63))))) (Tg.nm 3) rYes (rBlt absD (rCons (rVar 3) rNil)) [3]) (Tg.nm 1)) (rsSeq (rsAsg (rBin addD (rC (Dt.int n)) (rBlt lenD (rCons (rVar 1) rNil))) (Tg.nm 2)) (rsSeq (rsFor (wSeq (rVar 1)) (Tg.nm 3) (rsAsg (rBin modD (rBlt Ev.intD (rCons (rBin addD (rBin addD (rBin mulD (rVar 2) (rC (Dt.int 48271))) (rBin modD (rBlt Ev.intD (rCons (rVar 3) rNil)) (rC (Dt.int 2147483629)))) (rC (Dt.int 7))) rNil)) (rC (Dt.int 2147483647))) (Tg.nm 2))) (rsRet (rLst (rCons (rLRev (rBlt listD (rCons (rVar 1) rNil))) (rCons (rC (Dt.int 0)) (rCons (rVar 2) rNil)))))))
theorem cut_iL {ns : List Int} {lo hi : Option Int} : ∃ ms, cutD (iL ns) lo hi = iL ms ∧ ms.length ≤ ns.length := by
  unfold cutD iL
  refine ⟨(ns.drop (HT.sIx ns.length 0 lo)).take (HT.sIx ns.length ns.length hi - HT.sIx ns.length 0 lo), ?_, ?_⟩
  · rw [List.length_map, List.map_take, List.map_drop]
  · rw [List.length_take, List.length_drop]; omega
theorem loop_bag {D : EndsD} {p : Addr} {ds : List Dt} {x0 x1 : Option Dt} (tb : RS) (htb : tb = rsAsg (rBin modD (rBlt Ev.intD (rCons (rBin addD (rBin addD (rBin mulD (rVar 2) (rC (Dt.int 48271))) (rBin modD (rBlt Ev.intD (rCons (rVar 3) rNil)) (rC (Dt.int 2147483629)))) (rC (Dt.int 7))) rNil)) (rC (Dt.int 2147483647))) (Tg.nm 2)) {S : Sto} (hp : StL p ds S)
    (hE : ∀ m o, 0 ≤ m → m < 2147483647 → D.nx [x0, x1, some (.int m), o] S) : ∀ (ns : List Int) (m : Int) (o : Option Dt), 0 ≤ m → m < 2147483647 → forGo (.nm 3) tb D (StL p ds) (iL ns) [x0, x1, some (.int m), o] S
  | [], m, o, h0, h1 => ⟨hp, hE m o h0 h1⟩
  | n :: ns, m, o, h0, h1 => by
    refine ⟨hp, _, bindG_nm, ?_⟩
    subst htb
    simp only [rsFor, rLc, wipeD, rsNext, rsSeq, rsDrop, rsRet, rsRetN, rsIf, rsAsg, rsPar, rsPar3, rsAug, rsSet, rsBreak, rsCont, rVar, rC, rBin, rTru, rTest, rChain, rNeg, rNot, rAnd, rOr, rIf, rAndV, rOrV, rNotV, rNil, rCons, rTup, rLst, rNone, rSome, rSl, rCall, rCallK, rBlt, rLRev, rMeth, rMeth0, rYes, wSeq, wEnum, wRev, wRng1, wRng2, addD_int, addD_tup, addD_str, addD_ref, subD_int, mulD_int, mulD_ref, mulD_tup, fdivD_int, modD_int, powD_int, cmpD_int, isD_non, isnD_non, iaddD_int, isNon_non, isNon_int, isNon_str, isNon_tup, isNon_fr, isNon_bl, eqD_int, neD_int, absD_int, intD_int, intD_bl, lenD_tup, lenD_ref, lenD_pl, listD_pl, tupleD_pl, seqW_pl, enumW_pl, revW_pl, slD_pl, isNon_pl, addD_pl, listD_tup, listD_ref, tupleD_tup, tupleD_ref, max2D_int, min2D_int, truD_int, truD_bl, truD_tup, truD_non, seqW_tup, seqW_ref, enumW_tup, enumW_ref, revW_tup, revW_ref, rngW1_int, rngW2_int, slD_tup, slD_ref, slD_frl, popD_ref, appendD_ref, extendD_ref, setD_ref, bindG_nm, bindG_tup, bindGs_nil, bindGs_cons, ixD_ref, startD, List.map_cons, List.map_nil, List.length_cons, List.length_nil, List.cons_append, List.nil_append, List.getElem?_cons_zero, List.getElem?_cons_succ, List.set_cons_zero, List.set_cons_succ, Option.some.injEq, exists_eq_left', exists_eq_left, Option.bind_some, Nat.reduceAdd, Nat.reduceSub, List.replicate_succ, List.replicate_zero, Dt.bl.injEq, Dt.int.injEq, decide_eq_true_eq, Bool.false_eq_true, if_true, if_false, Bool.not_eq_true', Bool.not_true, Bool.not_false, bne_iff_ne, ne_eq, ixD_fr0, ixD_fr1, ixD_pair0, ixD_pair1, Dt.ref.injEq, List.cons.injEq, and_true, true_and, reduceIte, exists_eq, Nat.zero_add, Dt.tup.injEq, and_self, and_assoc, exists_and_left, fr_inj, pl_inj, ite_true, ite_false]
    refine ⟨mulOk31 h0 h1 (by omega) (by omega), by decide, by decide, ?_⟩
    exact loop_bag _ rfl hp hE ns _ _ (Int.emod_nonneg _ (by omega)) (Int.emod_lt_of_pos _ (by omega))
theorem hw_bag {n : Int} (hn : 0 ≤ n) (hn2 : n < 2147480000) {N : Str × Str × Str × Str} : ∀ ds St Q R, sp__law_own_bag ds St Q R → tb_of n (endsD Q R) (startD [N.1, N.2.1, N.2.2.1, N.2.2.2] ds) St := by
  rintro ds S Q R ⟨ns, rfl, hl, hQ⟩
  simp only [tb_of, rsFor, rLc, wipeD, rsNext, rsSeq, rsDrop, rsRet, rsRetN, rsIf, rsAsg, rsPar, rsPar3, rsAug, rsSet, rsBreak, rsCont, rVar, rC, rBin, rTru, rTest, rChain, rNeg, rNot, rAnd, rOr, rIf, rAndV, rOrV, rNotV, rNil, rCons, rTup, rLst, rNone, rSome, rSl, rCall, rCallK, rBlt, rLRev, rMeth, rMeth0, rYes, wSeq, wEnum, wRev, wRng1, wRng2, addD_int, addD_tup, addD_str, addD_ref, subD_int, mulD_int, mulD_ref, mulD_tup, fdivD_int, modD_int, powD_int, cmpD_int, isD_non, isnD_non, iaddD_int, isNon_non, isNon_int, isNon_str, isNon_tup, isNon_fr, isNon_bl, eqD_int, neD_int, absD_int, intD_int, intD_bl, lenD_tup, lenD_ref, lenD_pl, listD_pl, tupleD_pl, seqW_pl, enumW_pl, revW_pl, slD_pl, isNon_pl, addD_pl, listD_tup, listD_ref, tupleD_tup, tupleD_ref, max2D_int, min2D_int, truD_int, truD_bl, truD_tup, truD_non, seqW_tup, seqW_ref, enumW_tup, enumW_ref, revW_tup, revW_ref, rngW1_int, rngW2_int, slD_tup, slD_ref, slD_frl, popD_ref, appendD_ref, extendD_ref, setD_ref, bindG_nm, bindG_tup, bindGs_nil, bindGs_cons, ixD_ref, startD, List.map_cons, List.map_nil, List.length_cons, List.length_nil, List.cons_append, List.nil_append, List.getElem?_cons_zero, List.getElem?_cons_succ, List.set_cons_zero, List.set_cons_succ, Option.some.injEq, exists_eq_left', exists_eq_left, Option.bind_some, Nat.reduceAdd, Nat.reduceSub, List.replicate_succ, List.replicate_zero, Dt.bl.injEq, Dt.int.injEq, decide_eq_true_eq, Bool.false_eq_true, if_true, if_false, Bool.not_eq_true', Bool.not_true, Bool.not_false, bne_iff_ne, ne_eq, ixD_fr0, ixD_fr1, ixD_pair0, ixD_pair1, Dt.ref.injEq, List.cons.injEq, and_true, true_and, reduceIte, exists_eq, Nat.zero_add, Dt.tup.injEq, and_self, and_assoc, exists_and_left, fr_inj, pl_inj, ite_true, ite_false, rLc, wipeD]
  intro p0 hp0
  obtain ⟨ms, em, hm⟩ := cut_iL (ns := ns) (lo := none) (hi := some 63)
  rw [em]
  refine ⟨iL ms, lst_same, fun p hp => ?_⟩
  have hne : p0 ≠ p := fun e => by subst e; rw [put_same] at hp; cases hp
  have hlen : (iL ms).length ≤ 63 := by unfold iL; rw [List.length_map]; omega
  refine lcGo_pure (fun x => match x with | .int i => .int (i.natAbs : Int) | d => d) (iL ms) [] _ put_same (fun ys => ?_) ?_ (fun x hx => ?_) ?_
  · rw [put_put]
    show lstOf _ _ = _
    rw [lst_ne hne, lst_same]
  · simp only [List.length_nil, Nat.zero_add]
    exact Nat.le_trans hlen (by decide)
  · unfold iL at hx
    obtain ⟨i, _, rfl⟩ := List.mem_map.mp hx
    refine ⟨_, bindG_nm, fun S' Q h => ?_⟩
    simp only [rsFor, rLc, wipeD, rsNext, rsSeq, rsDrop, rsRet, rsRetN, rsIf, rsAsg, rsPar, rsPar3, rsAug, rsSet, rsBreak, rsCont, rVar, rC, rBin, rTru, rTest, rChain, rNeg, rNot, rAnd, rOr, rIf, rAndV, rOrV, rNotV, rNil, rCons, rTup, rLst, rNone, rSome, rSl, rCall, rCallK, rBlt, rLRev, rMeth, rMeth0, rYes, wSeq, wEnum, wRev, wRng1, wRng2, addD_int, addD_tup, addD_str, addD_ref, subD_int, mulD_int, mulD_ref, mulD_tup, fdivD_int, modD_int, powD_int, cmpD_int, isD_non, isnD_non, iaddD_int, isNon_non, isNon_int, isNon_str, isNon_tup, isNon_fr, isNon_bl, eqD_int, neD_int, absD_int, intD_int, intD_bl, lenD_tup, lenD_ref, lenD_pl, listD_pl, tupleD_pl, seqW_pl, enumW_pl, revW_pl, slD_pl, isNon_pl, addD_pl, listD_tup, listD_ref, tupleD_tup, tupleD_ref, max2D_int, min2D_int, truD_int, truD_bl, truD_tup, truD_non, seqW_tup, seqW_ref, enumW_tup, enumW_ref, revW_tup, revW_ref, rngW1_int, rngW2_int, slD_tup, slD_ref, slD_frl, popD_ref, appendD_ref, extendD_ref, setD_ref, bindG_nm, bindG_tup, bindGs_nil, bindGs_cons, ixD_ref, startD, List.map_cons, List.map_nil, List.length_cons, List.length_nil, List.cons_append, List.nil_append, List.getElem?_cons_zero, List.getElem?_cons_succ, List.set_cons_zero, List.set_cons_succ, Option.some.injEq, exists_eq_left', exists_eq_left, Option.bind_some, Nat.reduceAdd, Nat.reduceSub, List.replicate_succ, List.replicate_zero, Dt.bl.injEq, Dt.int.injEq, decide_eq_true_eq, Bool.false_eq_true, if_true, if_false, Bool.not_eq_true', Bool.not_true, Bool.not_false, bne_iff_ne, ne_eq, ixD_fr0, ixD_fr1, ixD_pair0, ixD_pair1, Dt.ref.injEq, List.cons.injEq, and_true, true_and, reduceIte, exists_eq, Nat.zero_add, Dt.tup.injEq, and_self, and_assoc, exists_and_left, fr_inj, pl_inj, ite_true, ite_false]
    rw [abs_eq]
    exact h
  · rw [put_put]
    have e : (iL ms).map (fun x => match x with | .int i => Dt.int (i.natAbs : Int) | d => d) = iL (ms.map fun i => (i.natAbs : Int)) := by
      unfold iL; simp [List.map_map, Function.comp_def]
    rw [List.nil_append, e]
    have hlen2 : (iL (ms.map fun i => (i.natAbs : Int))).length ≤ 63 := by unfold iL; rw [List.length_map, List.length_map]; omega
    simp only [rsFor, rLc, wipeD, rsNext, rsSeq, rsDrop, rsRet, rsRetN, rsIf, rsAsg, rsPar, rsPar3, rsAug, rsSet, rsBreak, rsCont, rVar, rC, rBin, rTru, rTest, rChain, rNeg, rNot, rAnd, rOr, rIf, rAndV, rOrV, rNotV, rNil, rCons, rTup, rLst, rNone, rSome, rSl, rCall, rCallK, rBlt, rLRev, rMeth, rMeth0, rYes, wSeq, wEnum, wRev, wRng1, wRng2, addD_int, addD_tup, addD_str, addD_ref, subD_int, mulD_int, mulD_ref, mulD_tup, fdivD_int, modD_int, powD_int, cmpD_int, isD_non, isnD_non, iaddD_int, isNon_non, isNon_int, isNon_str, isNon_tup, isNon_fr, isNon_bl, eqD_int, neD_int, absD_int, intD_int, intD_bl, lenD_tup, lenD_ref, lenD_pl, listD_pl, tupleD_pl, seqW_pl, enumW_pl, revW_pl, slD_pl, isNon_pl, addD_pl, listD_tup, listD_ref, tupleD_tup, tupleD_ref, max2D_int, min2D_int, truD_int, truD_bl, truD_tup, truD_non, seqW_tup, seqW_ref, enumW_tup, enumW_ref, revW_tup, revW_ref, rngW1_int, rngW2_int, slD_tup, slD_ref, slD_frl, popD_ref, appendD_ref, extendD_ref, setD_ref, bindG_nm, bindG_tup, bindGs_nil, bindGs_cons, ixD_ref, startD, List.map_cons, List.map_nil, List.length_cons, List.length_nil, List.cons_append, List.nil_append, List.getElem?_cons_zero, List.getElem?_cons_succ, List.set_cons_zero, List.set_cons_succ, Option.some.injEq, exists_eq_left', exists_eq_left, Option.bind_some, Nat.reduceAdd, Nat.reduceSub, List.replicate_succ, List.replicate_zero, Dt.bl.injEq, Dt.int.injEq, decide_eq_true_eq, Bool.false_eq_true, if_true, if_false, Bool.not_eq_true', Bool.not_true, Bool.not_false, bne_iff_ne, ne_eq, ixD_fr0, ixD_fr1, ixD_pair0, ixD_pair1, Dt.ref.injEq, List.cons.injEq, and_true, true_and, reduceIte, exists_eq, Nat.zero_add, Dt.tup.injEq, and_self, and_assoc, exists_and_left, fr_inj, pl_inj, ite_true, ite_false, lst_same]
    refine loop_bag _ rfl lst_same (fun m o h0 h1 => ?_) _ _ _ (by omega) (by omega)
    simp only [rsFor, rLc, wipeD, rsNext, rsSeq, rsDrop, rsRet, rsRetN, rsIf, rsAsg, rsPar, rsPar3, rsAug, rsSet, rsBreak, rsCont, rVar, rC, rBin, rTru, rTest, rChain, rNeg, rNot, rAnd, rOr, rIf, rAndV, rOrV, rNotV, rNil, rCons, rTup, rLst, rNone, rSome, rSl, rCall, rCallK, rBlt, rLRev, rMeth, rMeth0, rYes, wSeq, wEnum, wRev, wRng1, wRng2, addD_int, addD_tup, addD_str, addD_ref, subD_int, mulD_int, mulD_ref, mulD_tup, fdivD_int, modD_int, powD_int, cmpD_int, isD_non, isnD_non, iaddD_int, isNon_non, isNon_int, isNon_str, isNon_tup, isNon_fr, isNon_bl, eqD_int, neD_int, absD_int, intD_int, intD_bl, lenD_tup, lenD_ref, lenD_pl, listD_pl, tupleD_pl, seqW_pl, enumW_pl, revW_pl, slD_pl, isNon_pl, addD_pl, listD_tup, listD_ref, tupleD_tup, tupleD_ref, max2D_int, min2D_int, truD_int, truD_bl, truD_tup, truD_non, seqW_tup, seqW_ref, enumW_tup, enumW_ref, revW_tup, revW_ref, rngW1_int, rngW2_int, slD_tup, slD_ref, slD_frl, popD_ref, appendD_ref, extendD_ref, setD_ref, bindG_nm, bindG_tup, bindGs_nil, bindGs_cons, ixD_ref, startD, List.map_cons, List.map_nil, List.length_cons, List.length_nil, List.cons_append, List.nil_append, List.getElem?_cons_zero, List.getElem?_cons_succ, List.set_cons_zero, List.set_cons_succ, Option.some.injEq, exists_eq_left', exists_eq_left, Option.bind_some, Nat.reduceAdd, Nat.reduceSub, List.replicate_succ, List.replicate_zero, Dt.bl.injEq, Dt.int.injEq, decide_eq_true_eq, Bool.false_eq_true, if_true, if_false, Bool.not_eq_true', Bool.not_true, Bool.not_false, bne_iff_ne, ne_eq, ixD_fr0, ixD_fr1, ixD_pair0, ixD_pair1, Dt.ref.injEq, List.cons.injEq, and_true, true_and, reduceIte, exists_eq, Nat.zero_add, Dt.tup.injEq, and_self, and_assoc, exists_and_left, fr_inj, pl_inj, ite_true, ite_false, lst_same]
    intro q hq
    intro q2 hq2
    refine ⟨by decide, fun a ha => rt_of (hQ a q2 _ ⟨(ms.map fun i => (i.natAbs : Int)).reverse, 0, m, ?_⟩)⟩
    have hne : a ≠ q2 := fun e => by subst e; rw [put_same] at ha; cases ha
    refine ⟨hne, put_same, ?_, fun c hc => ?_, by omega, h0, h1⟩
    · rw [put_ne hne.symm, put_same]
      unfold iL
      rw [List.map_reverse]
    · rw [List.mem_reverse] at hc
      obtain ⟨i, _, rfl⟩ := List.mem_map.mp hc
      omega
theorem len__law_own_bag : ∀ ds S Q R, sp__law_own_bag ds S Q R → ds.length = 1 := by
  rintro ds S Q R ⟨ns, rfl, _⟩; rfl
end Ev

namespace Ev
open PySem PySem.Spec PyProof.Rows L2
/-! ### data that shows -/
structure Ni (S : Sto) (n w : Nat) (x : Dt) (p : PyData) : Prop where
  dp : DP S x p
  lay : p.canLay0 = true
  dep : p.depth ≤ n
  sh : p.showable = true
  lv : p.leavesShort 1921 = true
  bk : p.bulk ≤ w
structure NiL (S : Sto) (n w : Nat) (xs : List Dt) (ps : List PyData) : Prop where
  dp : DPs S xs ps
  lay : PyData.canLayAll0 ps = true
  dep : PyData.depthAll ps ≤ n
  sh : PyData.showableAll ps = true
  lv : PyData.leavesShortAll 1921 ps = true
  bk : PyData.bulkAll ps ≤ w
section
variable {S S' : Sto} {n w w' n' : Nat} {x y : Dt} {p q : PyData} {xs ys : List Dt} {ps qs : List PyData} {a : Addr}
theorem Ni.mono (h : Ni S n w x p) (h1 : n ≤ n') (h2 : w ≤ w') : Ni S n' w' x p := ⟨h.dp, h.lay, Nat.le_trans h.dep h1, h.sh, h.lv, Nat.le_trans h.bk h2⟩
theorem NiL.mono (h : NiL S n w xs ps) (h1 : n ≤ n') (h2 : w ≤ w') : NiL S n' w' xs ps := ⟨h.dp, h.lay, Nat.le_trans h.dep h1, h.sh, h.lv, Nat.le_trans h.bk h2⟩
theorem NiL.nil : NiL S n 0 [] [] := ⟨.nil, by simp [PyData.canLayAll0], by simp [PyData.depthAll], by simp [PyData.showableAll], by simp [PyData.leavesShortAll], by simp [PyData.bulkAll]⟩
theorem NiL.cons (h : Ni S n w x p) (r : NiL S n w' xs ps) : NiL S n (w + 1 + w') (x :: xs) (p :: ps) :=
  ⟨.cons h.dp r.dp, by simp [PyData.canLayAll0, h.lay, r.lay], by have := h.dep; have := r.dep; simp only [PyData.depthAll]; omega, by simp [PyData.showableAll, h.sh, r.sh], by simp [PyData.leavesShortAll, h.lv, r.lv], by have := h.bk; have := r.bk; simp only [PyData.bulkAll]; omega⟩
theorem Ni.tup (h : NiL S n w xs ps) : Ni S (n + 1) w (.tup xs) (.tuple ps) :=
  ⟨.tup h.dp, by simp [PyData.canLay0, h.lay], by have := h.dep; simp only [PyData.depth]; omega, by simp [PyData.showable, h.sh], by simp [PyData.leavesShort, h.lv], by have := h.bk; simpa only [PyData.bulk] using this⟩
theorem Ni.lst (e : lstOf S a = some xs) (h : NiL S n w xs ps) : Ni S (n + 1) w (.ref a) (.list ps) :=
  ⟨.lst e h.dp, by simp [PyData.canLay0, h.lay], by have := h.dep; simp only [PyData.depth]; omega, by simp [PyData.showable, h.sh], by simp [PyData.leavesShort, h.lv], by have := h.bk; simpa only [PyData.bulk] using this⟩
theorem Ni.non : Ni S n 0 .non .none := ⟨.non, by simp [PyData.canLay0], by simp [PyData.depth], by simp [PyData.showable], by simp [PyData.leavesShort], by simp [PyData.bulk]⟩
theorem Ni.bl (b : Bool) : Ni S n 0 (.bl b) (.bool b) := ⟨.bl b, by simp [PyData.canLay0], by simp [PyData.depth], by simp [PyData.showable], by simp [PyData.leavesShort], by simp [PyData.bulk]⟩
theorem Ni.int {i : Int} (h : i.natAbs.log2 < 1920) : Ni S n 0 (.int i) (.int i) := ⟨.int i, by simp [PyData.canLay0], by simp [PyData.depth], by simp [PyData.showable, h], by
    have := int_text_length_le (a := i) (k := 1920) (by decide) h
    have e : (Str.ofString (toString i)).length = (toString i).length := PySem.ofString_length _
    simp only [PyData.leavesShort, decide_eq_true_eq]
    show (PyData.shown (.int i)).length ≤ 1921
    simp only [PyData.shown]
    omega, by simp [PyData.bulk]⟩
theorem Ni.str {z : Str} (h1 : PyData.strOk z = true) (h2 : (PyData.str z).leavesShort 1921 = true) (h3 : z.cps.size ≤ w) : Ni S n w (.str z) (.str z) := ⟨.str z, by simpa only [PyData.canLay0] using h1, by simp [PyData.depth], by simp [PyData.showable], h2, by simpa only [PyData.bulk] using h3⟩
theorem lstOf_sub (s : Sub S S') (e : lstOf S a = some xs) : lstOf S' a = some xs := by
  unfold lstOf at e ⊢
  cases h : S a with
  | none => rw [h] at e; cases e
  | some o => rw [h] at e; rw [s a o h]; exact e
mutual
theorem DP.sub (s : Sub S S') : ∀ {x : Dt} {p : PyData}, DP S x p → DP S' x p
  | _, _, .non => .non
  | _, _, .bl b => .bl b
  | _, _, .int i => .int i
  | _, _, .str x => .str x
  | _, _, .tup h => .tup (DPs.sub s h)
  | _, _, .lst e h => .lst (lstOf_sub s e) (DPs.sub s h)
theorem DPs.sub (s : Sub S S') : ∀ {xs : List Dt} {ps : List PyData}, DPs S xs ps → DPs S' xs ps
  | _, _, .nil => .nil
  | _, _, .cons a b => .cons (DP.sub s a) (DPs.sub s b)
end
theorem Ni.sub (h : Ni S n w x p) (s : Sub S S') : Ni S' n w x p := ⟨h.dp.sub s, h.lay, h.dep, h.sh, h.lv, h.bk⟩
theorem NiL.sub (h : NiL S n w xs ps) (s : Sub S S') : NiL S' n w xs ps := ⟨h.dp.sub s, h.lay, h.dep, h.sh, h.lv, h.bk⟩
theorem Ni.shaped (h : Ni S n w x p) (hn : n ≤ 64) : SeqAt.shaped p = true := by
  have := h.dep
  unfold SeqAt.shaped
  rw [h.lay, Bool.true_and]
  exact decide_eq_true (by omega)
theorem Ni.eqR (h : Ni S n w x p) (h2 : Ni S n' w' y q) (hn : n ≤ 64) (hn2 : n' ≤ 64) : Ev.eqR S x y (PyData.eqv p q) := ⟨p, q, h.dp, h2.dp, h.shaped hn, h2.shaped hn2, rfl⟩
theorem Ni.same (h : Ni S n w x p) (h2 : Ni S n' w' y p) (hn : n ≤ 64) (hn2 : n' ≤ 64) : Ev.eqR S x y true := by
  have := h.eqR h2 hn hn2
  rwa [SeqAt.eqv_refl p h.lay] at this
theorem Ni.repr (h : Ni S n w x p) (hn : n ≤ 64) (hw : w ≤ 8000) : reprR S x p.shown := by
  refine ⟨p, h.dp, h.shaped hn, h.sh, ?_, rfl⟩
  have h1 := PyData.shown_le_bulk 1921 (by decide) p h.lv
  have h2 : (1921 + 2) * p.bulk ≤ 1923 * 8000 := Nat.mul_le_mul_left _ (Nat.le_trans h.bk hw)
  have e : sizeLine = 16777216 := by decide
  omega
end
/-! ### is, all -/
def sp__law_is : SpD := fun ds S Q _ => ∃ (x y : Dt) (p : PyData), ds = [x, y] ∧ (Ni S 60 8000 x p ∧ Ni S 60 8000 y p) ∧ Q (.bl true) S
def t__law_is : RS := rsRet (rAndV (rBin eqD (rVar 0) (rVar 1)) (rBin eqD (rBlt reprD (rCons (rVar 0) rNil)) (rBlt reprD (rCons (rVar 1) rNil))))
theorem reprD_of {S : Sto} {x : Dt} {z : Str} {Q : QD} (h : reprR S x z) (q : Q (.str z) S) : reprD [x] S Q := ⟨z, h, q⟩
theorem hw__law_is : ∀ ds St Q R, sp__law_is ds St Q R → t__law_is (endsD Q R) (startD ["told", "due"] ds) St := by
  rintro ds S Q R ⟨x, y, p, rfl, ⟨h1, h2⟩, hQ⟩
  simp only [t__law_is, rsFor, rLc, wipeD, rsNext, rsSeq, rsDrop, rsRet, rsRetN, rsIf, rsAsg, rsPar, rsPar3, rsAug, rsSet, rsBreak, rsCont, rVar, rC, rBin, rTru, rTest, rChain, rNeg, rNot, rAnd, rOr, rIf, rAndV, rOrV, rNotV, rNil, rCons, rTup, rLst, rNone, rSome, rSl, rCall, rCallK, rBlt, rLRev, rMeth, rMeth0, rYes, wSeq, wEnum, wRev, wRng1, wRng2, addD_int, addD_tup, addD_str, addD_ref, subD_int, mulD_int, mulD_ref, mulD_tup, fdivD_int, modD_int, powD_int, cmpD_int, isD_non, isnD_non, iaddD_int, isNon_non, isNon_int, isNon_str, isNon_tup, isNon_fr, isNon_bl, eqD_int, neD_int, absD_int, intD_int, intD_bl, lenD_tup, lenD_ref, lenD_pl, listD_pl, tupleD_pl, seqW_pl, enumW_pl, revW_pl, slD_pl, isNon_pl, addD_pl, listD_tup, listD_ref, tupleD_tup, tupleD_ref, max2D_int, min2D_int, truD_int, truD_bl, truD_tup, truD_non, seqW_tup, seqW_ref, enumW_tup, enumW_ref, revW_tup, revW_ref, rngW1_int, rngW2_int, slD_tup, slD_ref, slD_frl, popD_ref, appendD_ref, extendD_ref, setD_ref, bindG_nm, bindG_tup, bindGs_nil, bindGs_cons, ixD_ref, startD, List.map_cons, List.map_nil, List.length_cons, List.length_nil, List.cons_append, List.nil_append, List.getElem?_cons_zero, List.getElem?_cons_succ, List.set_cons_zero, List.set_cons_succ, Option.some.injEq, exists_eq_left', exists_eq_left, Option.bind_some, Nat.reduceAdd, Nat.reduceSub, List.replicate_succ, List.replicate_zero, Dt.bl.injEq, Dt.int.injEq, decide_eq_true_eq, decide_eq_false_iff_not, Bool.false_eq_true, if_true, if_false, Bool.not_eq_true', Bool.not_true, Bool.not_false, bne_iff_ne, ne_eq, ixD_fr0, ixD_fr1, ixD_pair0, ixD_pair1, Dt.ref.injEq, List.cons.injEq, and_true, true_and, reduceIte, exists_eq, Nat.zero_add, Dt.tup.injEq, and_self, and_assoc, exists_and_left, fr_inj, pl_inj, ite_true, ite_false]
  refine eqD_of (h1.same h2 (by decide) (by decide)) ?_
  simp only [rsFor, rLc, wipeD, rsNext, rsSeq, rsDrop, rsRet, rsRetN, rsIf, rsAsg, rsPar, rsPar3, rsAug, rsSet, rsBreak, rsCont, rVar, rC, rBin, rTru, rTest, rChain, rNeg, rNot, rAnd, rOr, rIf, rAndV, rOrV, rNotV, rNil, rCons, rTup, rLst, rNone, rSome, rSl, rCall, rCallK, rBlt, rLRev, rMeth, rMeth0, rYes, wSeq, wEnum, wRev, wRng1, wRng2, addD_int, addD_tup, addD_str, addD_ref, subD_int, mulD_int, mulD_ref, mulD_tup, fdivD_int, modD_int, powD_int, cmpD_int, isD_non, isnD_non, iaddD_int, isNon_non, isNon_int, isNon_str, isNon_tup, isNon_fr, isNon_bl, eqD_int, neD_int, absD_int, intD_int, intD_bl, lenD_tup, lenD_ref, lenD_pl, listD_pl, tupleD_pl, seqW_pl, enumW_pl, revW_pl, slD_pl, isNon_pl, addD_pl, listD_tup, listD_ref, tupleD_tup, tupleD_ref, max2D_int, min2D_int, truD_int, truD_bl, truD_tup, truD_non, seqW_tup, seqW_ref, enumW_tup, enumW_ref, revW_tup, revW_ref, rngW1_int, rngW2_int, slD_tup, slD_ref, slD_frl, popD_ref, appendD_ref, extendD_ref, setD_ref, bindG_nm, bindG_tup, bindGs_nil, bindGs_cons, ixD_ref, startD, List.map_cons, List.map_nil, List.length_cons, List.length_nil, List.cons_append, List.nil_append, List.getElem?_cons_zero, List.getElem?_cons_succ, List.set_cons_zero, List.set_cons_succ, Option.some.injEq, exists_eq_left', exists_eq_left, Option.bind_some, Nat.reduceAdd, Nat.reduceSub, List.replicate_succ, List.replicate_zero, Dt.bl.injEq, Dt.int.injEq, decide_eq_true_eq, decide_eq_false_iff_not, Bool.false_eq_true, if_true, if_false, Bool.not_eq_true', Bool.not_true, Bool.not_false, bne_iff_ne, ne_eq, ixD_fr0, ixD_fr1, ixD_pair0, ixD_pair1, Dt.ref.injEq, List.cons.injEq, and_true, true_and, reduceIte, exists_eq, Nat.zero_add, Dt.tup.injEq, and_self, and_assoc, exists_and_left, fr_inj, pl_inj, ite_true, ite_false]
  refine reprD_of (h1.repr (by decide) (by decide)) (reprD_of (h2.repr (by decide) (by decide)) ?_)
  rw [eqD_str, decide_eq_true rfl]
  exact rt_of hQ
theorem len__law_is : ∀ ds S Q R, sp__law_is ds S Q R → ds.length = 2 := by
  rintro ds S Q R ⟨x, y, p, rfl, _⟩; rfl
/-- a comprehension whose part is pure in the states that keep J -/
theorem lcGo_pureJ {t : Tg} {te : RE} {G J : Sto → Prop} {p : Addr} {σ : Slo} {E : Sto → Prop} (f : Dt → Dt) : ∀ (items acc : List Dt) (S : Sto), S p = some (.lst acc) → (∀ ys, G (put S p (.lst ys)) ∧ J (put S p (.lst ys))) → acc.length + items.length ≤ sizeLine →
    (∀ x ∈ items, ∃ σ2, bindG t x σ = some σ2 ∧ ∀ S' (Q : QD), J S' → Q (f x) S' → te σ2 S' Q noX) → E (put S p (.lst (acc ++ items.map f))) → lcGo t rYes te G p σ E items S
  | [], acc, S, hp, hG, hl, hx, hE => by
    have g := (hG acc).1
    rw [put_self hp] at g
    rw [List.map_nil, List.append_nil, put_self hp] at hE
    exact ⟨g, hE⟩
  | x :: xs, acc, S, hp, hG, hl, hx, hE => by
    have g := hG acc
    rw [put_self hp] at g
    obtain ⟨σ2, e, h⟩ := hx x (List.mem_cons_self ..)
    refine ⟨g.1, σ2, e, ?_⟩
    simp only [rYes, if_true]
    refine h S _ g.2 ⟨acc, hp, by rw [List.length_cons] at hl; omega, ?_⟩
    refine lcGo_pureJ f xs (acc ++ [f x]) _ put_same (fun ys => by rw [put_put]; exact hG ys) (by rw [List.length_append]; simp only [List.length_cons, List.length_nil] at *; omega) (fun y hy => hx y (List.mem_cons_of_mem _ hy)) ?_
    rw [put_put, List.append_assoc]
    exact hE
theorem sub_put {S : Sto} {p : Addr} {o : Ob} (h : S p = none) : Sub S (put S p o) := Sub.put h
theorem StL.sub {S S' : Sto} {a : Addr} {xs : List Dt} (h : StL a xs S) (s : Sub S S') : StL a xs S' := lstOf_sub s h
def Pair (S : Sto) (x : Dt) : Prop := ∃ (c : Addr) (u v : Dt) (p : PyData), x = .ref c ∧ lstOf S c = some [u, v] ∧ Ni S 60 8000 u p ∧ Ni S 60 8000 v p
theorem Pair.sub {S S' : Sto} {x : Dt} (h : Pair S x) (s : Sub S S') : Pair S' x := by
  obtain ⟨c, u, v, p, rfl, e, h1, h2⟩ := h
  exact ⟨c, u, v, p, rfl, lstOf_sub s e, h1.sub s, h2.sub s⟩
def sp__law_all : SpD := fun ds S Q _ => ∃ (a : Addr) (xs : List Dt), ds = [.ref a] ∧ (lstOf S a = some xs ∧ xs.length ≤ 1000 ∧ ∀ x ∈ xs, Pair S x) ∧ Q (.bl true) S
def t__law_all : RS := rsRet (rBlt allD (rCons (rLc (wSeq (rVar 0)) (Tg.nm 1) rYes (rCall sp__law_is (rCons (rBin ixD (rVar 1) (rC (Dt.int 0))) (rCons (rBin ixD (rVar 1) (rC (Dt.int 1))) rNil))) [1]) rNil))
theorem hw__law_all : ∀ ds St Q R, sp__law_all ds St Q R → t__law_all (endsD Q R) (startD ["found", "pair"] ds) St := by
  rintro ds S Q R ⟨a, xs, rfl, ⟨e, hl, hx⟩, hQ⟩
  simp only [t__law_all, rsFor, rLc, wipeD, rsNext, rsSeq, rsDrop, rsRet, rsRetN, rsIf, rsAsg, rsPar, rsPar3, rsAug, rsSet, rsBreak, rsCont, rVar, rC, rBin, rTru, rTest, rChain, rNeg, rNot, rAnd, rOr, rIf, rAndV, rOrV, rNotV, rNil, rCons, rTup, rLst, rNone, rSome, rSl, rCall, rCallK, rBlt, rLRev, rMeth, rMeth0, rYes, wSeq, wEnum, wRev, wRng1, wRng2, addD_int, addD_tup, addD_str, addD_ref, subD_int, mulD_int, mulD_ref, mulD_tup, fdivD_int, modD_int, powD_int, cmpD_int, isD_non, isnD_non, iaddD_int, isNon_non, isNon_int, isNon_str, isNon_tup, isNon_fr, isNon_bl, eqD_int, neD_int, absD_int, intD_int, intD_bl, lenD_tup, lenD_ref, lenD_pl, listD_pl, tupleD_pl, seqW_pl, enumW_pl, revW_pl, slD_pl, isNon_pl, addD_pl, listD_tup, listD_ref, tupleD_tup, tupleD_ref, max2D_int, min2D_int, truD_int, truD_bl, truD_tup, truD_non, seqW_tup, seqW_ref, enumW_tup, enumW_ref, revW_tup, revW_ref, rngW1_int, rngW2_int, slD_tup, slD_ref, slD_frl, popD_ref, appendD_ref, extendD_ref, setD_ref, bindG_nm, bindG_tup, bindGs_nil, bindGs_cons, ixD_ref, startD, List.map_cons, List.map_nil, List.length_cons, List.length_nil, List.cons_append, List.nil_append, List.getElem?_cons_zero, List.getElem?_cons_succ, List.set_cons_zero, List.set_cons_succ, Option.some.injEq, exists_eq_left', exists_eq_left, Option.bind_some, Nat.reduceAdd, Nat.reduceSub, List.replicate_succ, List.replicate_zero, Dt.bl.injEq, Dt.int.injEq, decide_eq_true_eq, decide_eq_false_iff_not, Bool.false_eq_true, if_true, if_false, Bool.not_eq_true', Bool.not_true, Bool.not_false, bne_iff_ne, ne_eq, ixD_fr0, ixD_fr1, ixD_pair0, ixD_pair1, Dt.ref.injEq, List.cons.injEq, and_true, true_and, reduceIte, exists_eq, Nat.zero_add, Dt.tup.injEq, and_self, and_assoc, exists_and_left, fr_inj, pl_inj, ite_true, ite_false, e]
  intro p hp
  refine lcGo_pureJ (J := fun S' => Sub S S') (fun _ => .bl true) xs [] _ put_same (fun ys => ?_) ?_ (fun x hm => ?_) ?_
  · rw [put_put]
    exact ⟨StL.sub e (Sub.put hp), Sub.put hp⟩
  · have : sizeLine = 16777216 := by decide
    simp only [List.length_nil]; omega
  · refine ⟨_, bindG_nm, fun S' Q' hS hq => ?_⟩
    obtain ⟨c, u, v, pd, rfl, e2, h1, h2⟩ := (hx x hm).sub hS
    simp only [rsFor, rLc, wipeD, rsNext, rsSeq, rsDrop, rsRet, rsRetN, rsIf, rsAsg, rsPar, rsPar3, rsAug, rsSet, rsBreak, rsCont, rVar, rC, rBin, rTru, rTest, rChain, rNeg, rNot, rAnd, rOr, rIf, rAndV, rOrV, rNotV, rNil, rCons, rTup, rLst, rNone, rSome, rSl, rCall, rCallK, rBlt, rLRev, rMeth, rMeth0, rYes, wSeq, wEnum, wRev, wRng1, wRng2, addD_int, addD_tup, addD_str, addD_ref, subD_int, mulD_int, mulD_ref, mulD_tup, fdivD_int, modD_int, powD_int, cmpD_int, isD_non, isnD_non, iaddD_int, isNon_non, isNon_int, isNon_str, isNon_tup, isNon_fr, isNon_bl, eqD_int, neD_int, absD_int, intD_int, intD_bl, lenD_tup, lenD_ref, lenD_pl, listD_pl, tupleD_pl, seqW_pl, enumW_pl, revW_pl, slD_pl, isNon_pl, addD_pl, listD_tup, listD_ref, tupleD_tup, tupleD_ref, max2D_int, min2D_int, truD_int, truD_bl, truD_tup, truD_non, seqW_tup, seqW_ref, enumW_tup, enumW_ref, revW_tup, revW_ref, rngW1_int, rngW2_int, slD_tup, slD_ref, slD_frl, popD_ref, appendD_ref, extendD_ref, setD_ref, bindG_nm, bindG_tup, bindGs_nil, bindGs_cons, ixD_ref, startD, List.map_cons, List.map_nil, List.length_cons, List.length_nil, List.cons_append, List.nil_append, List.getElem?_cons_zero, List.getElem?_cons_succ, List.set_cons_zero, List.set_cons_succ, Option.some.injEq, exists_eq_left', exists_eq_left, Option.bind_some, Nat.reduceAdd, Nat.reduceSub, List.replicate_succ, List.replicate_zero, Dt.bl.injEq, Dt.int.injEq, decide_eq_true_eq, decide_eq_false_iff_not, Bool.false_eq_true, if_true, if_false, Bool.not_eq_true', Bool.not_true, Bool.not_false, bne_iff_ne, ne_eq, ixD_fr0, ixD_fr1, ixD_pair0, ixD_pair1, Dt.ref.injEq, List.cons.injEq, and_true, true_and, reduceIte, exists_eq, Nat.zero_add, Dt.tup.injEq, and_self, and_assoc, exists_and_left, fr_inj, pl_inj, ite_true, ite_false, e2, at0, at1, sp__law_is]
    exact ⟨pd, h1, h2, hq⟩
  · rw [put_put]
    refine ⟨xs.map fun _ => true, ?_, ?_⟩
    · rw [lst_same]; simp [List.map_map, Function.comp_def]
    · have : (xs.map fun _ => true).all _root_.id = true := by simp
      rw [this]
      exact rt_sub hQ (Sub.put hp)
theorem len__law_all : ∀ ds S Q R, sp__law_all ds S Q R → ds.length = 1 := by
  rintro ds S Q R ⟨x, y, rfl, _⟩; rfl
/-! ### fractions, polynomials as data -/
def pfr (q : Rat) : PyData := .tuple [.int q.num, .int (q.den : Int)]
theorem Ni.fr {S : Sto} {q : Rat} (h : Sz 1900 q) : Ni S 1 2 (fr q) (pfr q) := by
  have h1 : q.num.natAbs.log2 < 1920 := log2_lt (Nat.lt_of_lt_of_le h.1 (Nat.pow_le_pow_right (by omega) (by omega))) (by omega)
  have h2 : ((q.den : Nat) : Int).natAbs.log2 < 1920 := log2_lt (Nat.lt_of_lt_of_le h.2 (Nat.pow_le_pow_right (by omega) (by omega))) (by omega)
  exact Ni.tup (.cons (.int h1) (.cons (.int h2) .nil))
def ppl (p : List Rat) : PyData := .tuple (p.map pfr)
theorem dp_fr {S : Sto} {q : Rat} : DP S (fr q) (pfr q) := .tup (.cons (.int _) (.cons (.int _) .nil))
theorem dp_frs {S : Sto} : ∀ {p : List Rat}, DPs S (p.map Ev.fr) (p.map pfr)
  | [] => .nil
  | _ :: _ => .cons dp_fr dp_frs
theorem lay_frs : ∀ {p : List Rat}, PyData.canLayAll0 (p.map pfr) = true
  | [] => by simp [PyData.canLayAll0]
  | q :: p => by simp [PyData.canLayAll0, PyData.canLay0, pfr, lay_frs (p := p)]
theorem dep_frs : ∀ {p : List Rat}, PyData.depthAll (p.map pfr) ≤ 1
  | [] => by simp [PyData.depthAll]
  | q :: p => by
    have := dep_frs (p := p)
    simp only [List.map_cons, PyData.depthAll, PyData.depth, pfr]; omega
theorem sh_frs {p : List Rat} : SeqAt.shaped (.list (p.map pfr)) = true ∧ SeqAt.shaped (.tuple (p.map pfr)) = true := by
  have := dep_frs (p := p)
  constructor <;> simp [SeqAt.shaped, PyData.canLay0, PyData.depth, lay_frs] <;> omega
theorem eqR_frs_nil {S : Sto} {a b : Addr} {p : List Rat} (h : lstOf S a = some (p.map Ev.fr)) (hb : lstOf S b = some []) : eqR S (.ref a) (.ref b) (decide (p = [])) := by
  refine ⟨_, _, .lst h dp_frs, .lst hb .nil, sh_frs.1, (sh_frs (p := [])).1, ?_⟩
  cases p <;> simp [PyData.eqv, PyData.eqvAll]
theorem eqR_pl_nil {S : Sto} {p : List Rat} : eqR S (pl p) (.tup []) (decide (p = [])) := by
  refine ⟨_, _, .tup dp_frs, .tup .nil, sh_frs.2, (sh_frs (p := [])).2, ?_⟩
  cases p <;> simp [PyData.eqv, PyData.eqvAll]
theorem NiL.frs {S : Sto} : ∀ {p : List Rat}, (∀ q ∈ p, Sz 1900 q) → NiL S 1 (3 * p.length) (p.map Ev.fr) (p.map pfr)
  | [], _ => .nil
  | q :: p, h => (NiL.cons (Ni.fr (h q (List.mem_cons_self ..))) (NiL.frs fun x hx => h x (List.mem_cons_of_mem _ hx))).mono (Nat.le_refl _) (by rw [List.length_cons]; omega)
theorem Ni.pl {S : Sto} {p : List Rat} (h : ∀ q ∈ p, Sz 1900 q) : Ni S 2 (3 * p.length) (pl p) (ppl p) := .tup (.frs h)
end Ev

namespace Ev
/-! ### polynomials as rows of fractions -/
def ev : List Rat → Rat → Rat
  | [], _ => 0
  | a :: p, x => a + x * ev p x
def dd : List Rat → Rat → Rat
  | [], _ => 0
  | _ :: p, x => ev p x + x * dd p x
def trim : List Rat → List Rat
  | [] => []
  | a :: p => match trim p with
    | [] => if a = 0 then [] else [a]
    | b :: q => a :: b :: q
theorem trim_cons {a : Rat} {p : List Rat} : trim (a :: p) = if trim p = [] ∧ a = 0 then [] else a :: trim p := by
  show (match trim p with | [] => if a = 0 then [] else [a] | b :: q => a :: b :: q) = _
  cases h : trim p with
  | nil => by_cases ha : a = 0 <;> simp [ha]
  | cons b q => simp
theorem ev_trim (x : Rat) : ∀ p, ev (trim p) x = ev p x
  | [] => rfl
  | a :: p => by
    have ih := ev_trim x p
    rw [trim_cons]
    split
    · rename_i h
      rw [h.1] at ih
      simp only [ev] at ih ⊢
      rw [← ih, h.2]; grind
    · simp only [ev, ih]
theorem dd_trim (x : Rat) : ∀ p, dd (trim p) x = dd p x
  | [] => rfl
  | a :: p => by
    have ih := dd_trim x p
    have ih2 := ev_trim x p
    rw [trim_cons]
    split
    · rename_i h
      rw [h.1] at ih ih2
      simp only [ev, dd] at ih ih2 ⊢
      rw [← ih, ← ih2]; grind
    · simp only [dd, ih, ih2]
theorem trim_trim : ∀ p, trim (trim p) = trim p
  | [] => rfl
  | a :: p => by
    have ih := trim_trim p
    rw [trim_cons]
    split
    · rfl
    · rename_i h
      rw [trim_cons, ih, if_neg h]
theorem trim_sub {x : Rat} : ∀ {p}, x ∈ trim p → x ∈ p
  | [], h => by cases h
  | a :: p, h => by
    rw [trim_cons] at h
    split at h
    · cases h
    · rcases List.mem_cons.mp h with e | h
      · rw [e]; exact List.mem_cons_self ..
      · exact List.mem_cons_of_mem _ (trim_sub h)
theorem trim_len : ∀ p, (trim p).length ≤ p.length
  | [] => Nat.le_refl _
  | a :: p => by
    have := trim_len p
    rw [trim_cons]
    split
    · simp
    · simp; exact this
theorem trim_zero : ∀ {p : List Rat}, (∀ a ∈ p, a = 0) → trim p = []
  | [], _ => rfl
  | a :: p, h => by
    rw [trim_cons, if_pos ⟨trim_zero fun b hb => h b (List.mem_cons_of_mem _ hb), h a (List.mem_cons_self ..)⟩]
theorem trim_snoc {a : Rat} : ∀ {p : List Rat}, trim (p ++ [a]) = if a = 0 then trim p else p ++ [a]
  | [] => by
    show trim [a] = _
    rw [trim_cons]
    by_cases h : a = 0 <;> simp [trim, h]
  | b :: p => by
    have ih := @trim_snoc a p
    rw [List.cons_append, trim_cons, ih]
    by_cases h : a = 0
    · rw [if_pos h, if_pos h, trim_cons]
    · rw [if_neg h, if_neg h]; simp
theorem trim_last {p : List Rat} (h : p.getLast? ≠ some 0) : trim p = p := by
  rcases List.eq_nil_or_concat p with e | ⟨q, a, e⟩
  · rw [e]; rfl
  · subst e
    rw [List.concat_eq_append] at h ⊢
    rw [trim_snoc, if_neg]
    intro z; subst z; simp at h
theorem last_trim {p : List Rat} (h : trim p = p) : p.getLast? ≠ some 0 := by
  rcases List.eq_nil_or_concat p with e | ⟨q, a, e⟩
  · rw [e]; simp
  · subst e
    rw [List.concat_eq_append] at h ⊢
    intro z
    simp at z
    rw [trim_snoc, if_pos z] at h
    have := trim_len q
    rw [h] at this
    simp at this
    omega
/-! ### the values tell the polynomial -/
def dv (r : Rat) : List Rat → List Rat
  | [] => []
  | _ :: p => match p with
    | [] => []
    | b :: q => ev (b :: q) r :: dv r (b :: q)
theorem dv_len (r : Rat) : ∀ a p, (dv r (a :: p)).length = p.length
  | _, [] => rfl
  | a, b :: q => by
    show (ev (b :: q) r :: dv r (b :: q)).length = _
    rw [List.length_cons, dv_len r b q]; rfl
theorem dv_ev (r x : Rat) : ∀ a p, ev (a :: p) x = ev (a :: p) r + (x - r) * ev (dv r (a :: p)) x
  | a, [] => by
    show a + x * 0 = a + r * 0 + (x - r) * 0
    grind
  | a, b :: q => by
    have ih := dv_ev r x b q
    show a + x * ev (b :: q) x = a + r * ev (b :: q) r + (x - r) * (ev (b :: q) r + x * ev (dv r (b :: q)) x)
    rw [ih]
    grind
theorem dv_zero (r : Rat) : ∀ a p, (∀ c ∈ dv r (a :: p), c = 0) → ∀ c ∈ p, c = 0
  | _, [], _ => by intro c hc; cases hc
  | a, b :: q, h => by
    have h' : ∀ c ∈ ev (b :: q) r :: dv r (b :: q), c = 0 := h
    have ih := dv_zero r b q fun c hc => h' c (List.mem_cons_of_mem _ hc)
    have e0 : ev (b :: q) r = 0 := h' _ (List.mem_cons_self ..)
    have eq0 : ∀ (q : List Rat), (∀ c ∈ q, c = 0) → ev q r = 0 := by
      intro q
      induction q with
      | nil => intro _; rfl
      | cons c q ih => intro h; simp only [ev]; rw [h c (List.mem_cons_self ..), ih fun d hd => h d (List.mem_cons_of_mem _ hd)]; grind
    have e1 := eq0 q ih
    simp only [ev] at e0
    rw [e1] at e0
    intro c hc
    rcases List.mem_cons.mp hc with e | hc
    · rw [e]; grind
    · exact ih c hc
theorem zero_of : ∀ (n : Nat) (p : List Rat) (k : Nat), p.length = n → (∀ m : Nat, k ≤ m → ev p (m : Rat) = 0) → ∀ a ∈ p, a = 0
  | _, [], _, _, _ => by intro a h; cases h
  | 0, _ :: _, _, h, _ => by cases h
  | n + 1, a :: p, k, hl, h => by
    have hd : ∀ m : Nat, k + 1 ≤ m → ev (dv (k : Rat) (a :: p)) (m : Rat) = 0 := fun m hm => by
      have e := dv_ev (k : Rat) (m : Rat) a p
      rw [h m (by omega), h k (Nat.le_refl _)] at e
      have hne : (m : Rat) - (k : Rat) ≠ 0 := by
        intro z
        have : (m : Rat) = (k : Rat) := by grind
        have : m = k := by exact_mod_cast this
        omega
      have e2 : ((m : Rat) - (k : Rat)) * ev (dv (k : Rat) (a :: p)) (m : Rat) = 0 := by grind
      rcases Rat.mul_eq_zero.mp e2 with z | z
      · exact absurd z hne
      · exact z
    have hz := dv_zero (k : Rat) a p (zero_of n _ (k + 1) (by rw [dv_len]; simpa using hl) hd)
    have ek := h k (Nat.le_refl _)
    have e0 : ∀ (q : List Rat) (x : Rat), (∀ c ∈ q, c = 0) → ev q x = 0 := by
      intro q x
      induction q with
      | nil => intro _; rfl
      | cons c q ih => intro h; simp only [ev]; rw [h c (List.mem_cons_self ..), ih fun d hd => h d (List.mem_cons_of_mem _ hd)]; grind
    simp only [ev] at ek
    rw [e0 p _ hz] at ek
    intro c hc
    rcases List.mem_cons.mp hc with e | hc
    · rw [e]; grind
    · exact hz c hc
def dif : List Rat → List Rat → List Rat
  | [], q => q.map fun b => -b
  | p, [] => p
  | a :: p, b :: q => (a - b) :: dif p q
theorem ev_neg (x : Rat) : ∀ q, ev (q.map fun b => -b) x = - ev q x
  | [] => by simp [ev]
  | b :: q => by simp only [List.map_cons, ev, ev_neg x q]; grind
theorem ev_dif (x : Rat) : ∀ p q, ev (dif p q) x = ev p x - ev q x
  | [], q => by simp only [dif, ev_neg, ev]; grind
  | a :: p, [] => by simp only [dif, ev]; grind
  | a :: p, b :: q => by simp only [dif, ev, ev_dif x p q]; grind
theorem dif_zero : ∀ p q, (∀ c ∈ dif p q, c = 0) → trim p = trim q
  | [], q, h => by
    rw [trim_zero (p := q)]
    · rfl
    · intro b hb
      have := h (-b) (by simp only [dif]; exact List.mem_map.mpr ⟨b, hb, rfl⟩)
      grind
  | a :: p, [], h => by
    rw [trim_zero (p := a :: p)]
    · rfl
    · intro b hb; exact h b (by simpa only [dif] using hb)
  | a :: p, b :: q, h => by
    simp only [dif] at h
    have ih := dif_zero p q fun c hc => h c (List.mem_cons_of_mem _ hc)
    have e : a = b := by
      have := h _ (List.mem_cons_self ..)
      grind
    rw [trim_cons, trim_cons, ih, e]
/-- ONE POLYNOMIAL: told by its values -/
theorem trim_eq {p q : List Rat} (h : ∀ x, ev p x = ev q x) : trim p = trim q :=
  dif_zero p q (zero_of _ _ 0 rfl fun m _ => by rw [ev_dif, h]; grind)
theorem poly_eq {p q : List Rat} (hp : trim p = p) (hq : trim q = q) (h : ∀ x, ev p x = ev q x) : p = q := by
  rw [← hp, ← hq]; exact trim_eq h
/-! ### sum, product, slope -/
def addR : List Rat → List Rat → List Rat
  | [], q => q
  | p, [] => p
  | a :: p, b :: q => (a + b) :: addR p q
theorem ev_addR (x : Rat) : ∀ p q, ev (addR p q) x = ev p x + ev q x
  | [], q => by simp only [addR, ev]; grind
  | a :: p, [] => by simp only [addR, ev]; grind
  | a :: p, b :: q => by simp only [addR, ev, ev_addR x p q]; grind
theorem dd_addR (x : Rat) : ∀ p q, dd (addR p q) x = dd p x + dd q x
  | [], q => by simp only [addR, dd]; grind
  | a :: p, [] => by simp only [addR, dd]; grind
  | a :: p, b :: q => by simp only [addR, dd, ev_addR, dd_addR x p q]; grind
theorem ev_scale (x f : Rat) : ∀ p, ev (p.map (f * ·)) x = f * ev p x
  | [] => by simp [ev]
  | a :: p => by simp only [List.map_cons, ev, ev_scale x f p]; grind
theorem dd_scale (x f : Rat) : ∀ p, dd (p.map (f * ·)) x = f * dd p x
  | [] => by simp [dd]
  | a :: p => by simp only [List.map_cons, dd, ev_scale, dd_scale x f p]; grind
def mulR : List Rat → List Rat → List Rat
  | [], _ => []
  | a :: p, q => addR (q.map (a * ·)) (0 :: mulR p q)
theorem ev_mulR (x : Rat) : ∀ p q, ev (mulR p q) x = ev p x * ev q x
  | [], q => by simp only [mulR, ev]; grind
  | a :: p, q => by simp only [mulR, ev, ev_addR, ev_scale, ev_mulR x p q]; grind
theorem dd_mulR (x : Rat) : ∀ p q, dd (mulR p q) x = dd p x * ev q x + ev p x * dd q x
  | [], q => by simp only [mulR, dd, ev]; grind
  | a :: p, q => by simp only [mulR, dd, ev, dd_addR, dd_scale, ev_mulR, dd_mulR x p q]; grind
def slopeK : Nat → List Rat → List Rat
  | _, [] => []
  | k, a :: p => ((k : Rat) * a) :: slopeK (k + 1) p
theorem ev_slopeK (x : Rat) : ∀ k p, ev (slopeK k p) x = (k : Rat) * ev p x + x * dd p x
  | k, [] => by simp only [slopeK, ev, dd]; grind
  | k, a :: p => by
    have e : ((k + 1 : Nat) : Rat) = (k : Rat) + 1 := by exact_mod_cast rfl
    simp only [slopeK, ev, dd, ev_slopeK x (k + 1) p, e]; grind
def slope (p : List Rat) : List Rat := slopeK 1 p.tail
theorem ev_slope (x : Rat) (p : List Rat) : ev (slope p) x = dd p x := by
  unfold slope
  cases p with
  | nil => rfl
  | cons a p =>
    rw [List.tail_cons, ev_slopeK]
    simp only [dd]
    have : ((1 : Nat) : Rat) = 1 := by exact_mod_cast rfl
    rw [this]; grind
theorem slopeK_last : ∀ k p, 0 < k → p.getLast? ≠ some 0 → (slopeK k p).getLast? ≠ some 0
  | _, [], _, _ => by simp [slopeK]
  | k, [a], hk, h => by
    simp only [slopeK, List.getLast?_singleton]
    intro z
    have z : (k : Rat) * a = 0 := by simpa using z
    rcases Rat.mul_eq_zero.mp z with e | e
    · have : k = 0 := by exact_mod_cast e
      omega
    · exact h (by simp [e])
  | k, a :: b :: p, hk, h => by
    have := slopeK_last (k + 1) (b :: p) (by omega) (by simpa using h)
    simp only [slopeK] at this ⊢
    simpa using this
theorem slope_trim {p : List Rat} (h : trim p = p) : trim (slope p) = slope p := by
  refine trim_last ?_
  unfold slope
  cases p with
  | nil => simp [slopeK]
  | cons a p =>
    rw [List.tail_cons]
    cases p with
    | nil => simp [slopeK]
    | cons b p => exact slopeK_last 1 _ (by decide) (by have := last_trim h; simpa using this)
def pAdd (p q : List Rat) : List Rat := trim (addR p q)
def pMul (p q : List Rat) : List Rat := trim (mulR p q)
def pScale (f : Rat) (p : List Rat) : List Rat := trim (p.map (f * ·))
end Ev

namespace Ev
/-! ### bounds -/
/-- q is a whole number of D-ths, at most M -/
def W (D M : Nat) (q : Rat) : Prop := ∃ n : Int, q * (D : Rat) = (n : Rat) ∧ n.natAbs ≤ M * D
theorem W.zero {D M : Nat} : W D M 0 := ⟨0, by grind, by simp⟩
theorem W.mono {D M M' : Nat} {q : Rat} (h : W D M q) (hm : M ≤ M') : W D M' q := by
  obtain ⟨n, e, b⟩ := h
  exact ⟨n, e, Nat.le_trans b (Nat.mul_le_mul_right _ hm)⟩
theorem W.up {D E M : Nat} {q : Rat} (h : W D M q) : W (D * E) M q := by
  obtain ⟨n, e, b⟩ := h
  refine ⟨n * E, ?_, ?_⟩
  · have : ((D * E : Nat) : Rat) = (D : Rat) * (E : Rat) := by exact_mod_cast rfl
    have h2 : ((n * (E : Int) : Int) : Rat) = (n : Rat) * (E : Rat) := by exact_mod_cast rfl
    rw [this, h2, ← e]; grind
  · rw [Int.natAbs_mul, Int.natAbs_natCast, ← Nat.mul_assoc]
    exact Nat.mul_le_mul_right _ b
theorem W.add {D M N : Nat} {p q : Rat} (h : W D M p) (k : W D N q) : W D (M + N) (p + q) := by
  obtain ⟨n, e, b⟩ := h
  obtain ⟨m, e2, b2⟩ := k
  refine ⟨n + m, ?_, ?_⟩
  · have h2 : ((n + m : Int) : Rat) = (n : Rat) + (m : Rat) := by exact_mod_cast rfl
    rw [h2, ← e, ← e2]; grind
  · rw [Nat.add_mul]
    have := Int.natAbs_add_le n m
    omega
theorem W.neg {D M : Nat} {p : Rat} (h : W D M p) : W D M (-p) := by
  obtain ⟨n, e, b⟩ := h
  refine ⟨-n, ?_, by rw [Int.natAbs_neg]; exact b⟩
  have h2 : ((-n : Int) : Rat) = -(n : Rat) := by exact_mod_cast rfl
  rw [h2, ← e]; grind
theorem W.mul {D E M N : Nat} {p q : Rat} (h : W D M p) (k : W E N q) : W (D * E) (M * N) (p * q) := by
  obtain ⟨n, e, b⟩ := h
  obtain ⟨m, e2, b2⟩ := k
  refine ⟨n * m, ?_, ?_⟩
  · have : ((D * E : Nat) : Rat) = (D : Rat) * (E : Rat) := by exact_mod_cast rfl
    have h2 : ((n * m : Int) : Rat) = (n : Rat) * (m : Rat) := by exact_mod_cast rfl
    rw [this, h2, ← e, ← e2]; grind
  · rw [Int.natAbs_mul, show M * N * (D * E) = (M * D) * (N * E) by simp only [Nat.mul_comm, Nat.mul_left_comm, Nat.mul_assoc]]
    exact Nat.mul_le_mul b b2
theorem W.int {D M : Nat} {i : Int} (h : i.natAbs ≤ M) : W D M (i : Rat) := by
  refine ⟨i * D, ?_, ?_⟩
  · have h2 : ((i * (D : Int) : Int) : Rat) = (i : Rat) * (D : Rat) := by exact_mod_cast rfl
    rw [h2]
  · rw [Int.natAbs_mul, Int.natAbs_natCast]
    exact Nat.mul_le_mul_right _ h
theorem divInt_one' (n : Int) : Rat.divInt n 1 = (n : Rat) := (show Rat.divInt n 1 = mkRat n 1 from rfl).trans (Rat.mkRat_one n)
/-- a fraction, its size -/
theorem W.sz {D M k : Nat} {q : Rat} (h : W D M q) (hD : 0 < D) (h1 : D < 2 ^ k) (h2 : M * D < 2 ^ k) : Sz k q := by
  obtain ⟨n, e, b⟩ := h
  have hD' : (D : Rat) ≠ 0 := by
    intro z
    have : D = 0 := by exact_mod_cast z
    omega
  have e1 : q = Rat.divInt n (D : Int) := by
    have h3 : (Rat.divInt n (D : Int)) * (D : Rat) = (n : Rat) := by
      have h4 := Rat.divInt_mul_divInt n (D : Int) (d₁ := (D : Int)) (d₂ := 1)
      have h5 : Rat.divInt (D : Int) 1 = (D : Rat) := by
        rw [divInt_one']; exact_mod_cast rfl
      rw [h5] at h4
      rw [h4, Int.mul_one, Int.mul_comm]
      have h6 : Rat.divInt ((D : Int) * n) (D : Int) = Rat.divInt n 1 := by
        have := Rat.divInt_mul_left (n := n) (d := 1) (a := (D : Int)) (by omega)
        rw [Int.mul_one] at this
        exact this
      rw [h6, divInt_one']
    have h7 : (q - Rat.divInt n (D : Int)) * (D : Rat) = 0 := by grind
    rcases Rat.mul_eq_zero.mp h7 with z | z
    · grind
    · exact absurd z hD'
  have pos : (0 : Int) < D := by omega
  subst e1
  constructor
  · rw [Rat.num_divInt, Int.sign_eq_one_of_pos pos, Int.one_mul]
    have : (n / (Int.gcd (D : Int) n : Nat)).natAbs ≤ n.natAbs := by
      rw [Int.natAbs_ediv_of_dvd (Int.gcd_dvd_right ..)]
      exact Nat.div_le_self _ _
    omega
  · rw [Rat.den_divInt, if_neg (by omega)]
    have : (D : Int).natAbs / Int.gcd (D : Int) n ≤ D := Nat.div_le_self _ _
    omega
def WL (D M : Nat) (p : List Rat) : Prop := ∀ q ∈ p, W D M q
theorem WL.trim {D M : Nat} {p : List Rat} (h : WL D M p) : WL D M (trim p) := fun q hq => h q (trim_sub hq)
theorem WL.mono {D M M' : Nat} {p : List Rat} (h : WL D M p) (hm : M ≤ M') : WL D M' p := fun q hq => (h q hq).mono hm
theorem WL.up {D E M : Nat} {p : List Rat} (h : WL D M p) : WL (D * E) M p := fun q hq => (h q hq).up
theorem WL.tail {D M : Nat} {a : Rat} {p : List Rat} (h : WL D M (a :: p)) : WL D M p := fun q hq => h q (List.mem_cons_of_mem _ hq)
theorem WL.head {D M : Nat} {a : Rat} {p : List Rat} (h : WL D M (a :: p)) : W D M a := h a (List.mem_cons_self ..)
theorem WL.cons {D M : Nat} {a : Rat} {p : List Rat} (h : W D M a) (r : WL D M p) : WL D M (a :: p) := fun q hq => by
  rcases List.mem_cons.mp hq with e | hq
  · rw [e]; exact h
  · exact r q hq
theorem WL.nil {D M : Nat} : WL D M [] := fun q hq => by cases hq
theorem WL.addR {D M N : Nat} : ∀ {p q : List Rat}, WL D M p → WL D N q → WL D (M + N) (addR p q)
  | [], q, _, h => by simp only [Ev.addR]; exact h.mono (by omega)
  | a :: p, [], h, _ => by simp only [Ev.addR]; exact h.mono (by omega)
  | a :: p, b :: q, h, k => by simp only [Ev.addR]; exact .cons (h.head.add k.head) (WL.addR h.tail k.tail)
theorem WL.scale {D E M N : Nat} {f : Rat} {p : List Rat} (hf : W D M f) (h : WL E N p) : WL (D * E) (M * N) (p.map (f * ·)) := fun q hq => by
  obtain ⟨a, ha, rfl⟩ := List.mem_map.mp hq
  exact hf.mul (h a ha)
theorem WL.mulR {D E M N : Nat} {q : List Rat} (hq : WL E N q) : ∀ {p : List Rat}, WL D M p → WL (D * E) (p.length * (M * N)) (mulR p q)
  | [], _ => by simp only [Ev.mulR]; exact .nil
  | a :: p, h => by
    simp only [Ev.mulR]
    refine (WL.addR (WL.scale h.head hq) (.cons .zero (WL.mulR hq h.tail))).mono ?_
    rw [List.length_cons, Nat.add_mul]; omega
theorem WL.slopeK {D M B : Nat} : ∀ {p : List Rat} {k : Nat}, WL D M p → k + p.length ≤ B → WL D (B * M) (slopeK k p)
  | [], _, _, _ => by simp only [Ev.slopeK]; exact .nil
  | a :: p, k, h, hb => by
    simp only [Ev.slopeK]
    rw [List.length_cons] at hb
    refine .cons ?_ (WL.slopeK h.tail (by omega))
    have h1 : W 1 B (((k : Nat) : Int) : Rat) := W.int (by omega)
    have := h1.mul h.head
    rw [Nat.one_mul] at this
    exact this
theorem WL.slope {D M B : Nat} {p : List Rat} (h : WL D M p) (hb : p.length ≤ B) : WL D (B * M) (slope p) := by
  unfold Ev.slope
  cases p with
  | nil => exact .nil
  | cons a p => exact WL.slopeK h.tail (by rw [List.length_cons] at hb; rw [List.tail_cons]; omega)
theorem addR_len : ∀ p q : List Rat, (addR p q).length = max p.length q.length
  | [], q => by simp [addR]
  | a :: p, [] => by simp [addR]
  | a :: p, b :: q => by simp only [addR, List.length_cons, addR_len p q]; omega
theorem mulR_len : ∀ p q : List Rat, (mulR p q).length ≤ p.length + q.length
  | [], q => by simp [mulR]
  | a :: p, q => by
    have := mulR_len p q
    simp only [mulR, addR_len, List.length_cons, List.length_map]; omega
theorem slope_len (p : List Rat) : (slope p).length = p.length - 1 := by
  have : ∀ k p, (slopeK k p).length = p.length := by
    intro k p
    induction p generalizing k with
    | nil => rfl
    | cons a p ih => simp [slopeK, ih]
  unfold slope
  rw [this, List.length_tail]
/-- a value, its bound: n items -/
theorem W.ev {D M E N : Nat} {x : Rat} (hx : W E N x) (hN : 1 ≤ N) : ∀ {p : List Rat}, WL D M p → W (D * E ^ p.length) (p.length * (M * N ^ p.length)) (ev p x)
  | [], _ => .zero
  | a :: p, h => by
    have ih := W.ev hx hN h.tail
    have h1 := hx.mul ih
    have e1 : E * (D * E ^ p.length) = D * E ^ (p.length + 1) := by rw [Nat.pow_succ]; simp only [Nat.mul_comm, Nat.mul_left_comm, Nat.mul_assoc]
    have e2 : N * (p.length * (M * N ^ p.length)) = p.length * (M * N ^ (p.length + 1)) := by rw [Nat.pow_succ]; simp only [Nat.mul_comm, Nat.mul_left_comm, Nat.mul_assoc]
    rw [e1, e2] at h1
    have h2 : W (D * E ^ (p.length + 1)) M a := h.head.up
    have := h2.add h1
    simp only [Ev.ev, List.length_cons]
    refine this.mono ?_
    have : 1 ≤ N ^ (p.length + 1) := Nat.one_le_pow _ _ hN
    have : M * 1 ≤ M * N ^ (p.length + 1) := Nat.mul_le_mul_left _ this
    rw [Nat.add_mul]
    omega
end Ev

namespace Ev
open PySem PySem.Spec PyProof.Rows L2
/-! ### the readings of the program (printed) -/
theorem nx_of {Q : QD} {R : XD → Sto → Prop} {σ : Slo} {S : Sto} (h : Q .non S) : (endsD Q R).nx σ S := ⟨S, Sub.refl, h⟩
/-! ### the bounds of the program -/
def sp_is_grown : SpD := fun ds S Q _ => ∃ q : Rat, ds = [fr q] ∧ Sz 1990 q ∧ Q (.bl false) S
theorem big_lt {n : Nat} (h : n < 2 ^ 1990) : (n : Int) < 10 ^ 600 := by
  have h1 : (2 : Nat) ^ 1990 ≤ 10 ^ 600 := by decide +kernel
  have h2 : n < 10 ^ 600 := Nat.lt_of_lt_of_le h h1
  exact_mod_cast h2
def t_is_grown : RS := rsRet (rOrV (rBin (cmpD fun i j => decide (j ≤ i)) (rBlt absD (rCons (rBin ixD (rVar 0) (rC (Dt.int 0))) rNil)) (rC (Dt.int (10 ^ 600)))) (rBin (cmpD fun i j => decide (j ≤ i)) (rBin ixD (rVar 0) (rC (Dt.int 1))) (rC (Dt.int (10 ^ 600)))))
theorem hw_is_grown : ∀ ds St Q R, sp_is_grown ds St Q R → t_is_grown (endsD Q R) (startD ["one"] ds) St := by
  rintro ds S Q R ⟨q, rfl, h, hQ⟩
  simp only [t_is_grown, rsFor, rLc, wipeD, rsNext, rsSeq, rsDrop, rsRet, rsRetN, rsIf, rsAsg, rsPar, rsPar3, rsAug, rsSet, rsBreak, rsCont, rVar, rC, rBin, rTru, rTest, rChain, rNeg, rNot, rAnd, rOr, rIf, rAndV, rOrV, rNotV, rNil, rCons, rTup, rLst, rNone, rSome, rSl, rCall, rCallK, rBlt, rLRev, rMeth, rMeth0, rYes, wSeq, wEnum, wRev, wRng1, wRng2, addD_int, addD_tup, addD_str, addD_ref, subD_int, mulD_int, mulD_ref, mulD_tup, fdivD_int, modD_int, powD_int, cmpD_int, isD_non, isnD_non, iaddD_int, isNon_non, isNon_int, isNon_str, isNon_tup, isNon_fr, isNon_bl, eqD_int, neD_int, absD_int, intD_int, intD_bl, lenD_tup, lenD_ref, lenD_pl, listD_pl, tupleD_pl, seqW_pl, enumW_pl, revW_pl, slD_pl, isNon_pl, addD_pl, listD_tup, listD_ref, tupleD_tup, tupleD_ref, max2D_int, min2D_int, truD_int, truD_bl, truD_tup, truD_non, seqW_tup, seqW_ref, enumW_tup, enumW_ref, revW_tup, revW_ref, rngW1_int, rngW2_int, slD_tup, slD_ref, slD_frl, popD_ref, appendD_ref, extendD_ref, setD_ref, bindG_nm, bindG_tup, bindGs_nil, bindGs_cons, ixD_ref, startD, List.map_cons, List.map_nil, List.length_cons, List.length_nil, List.cons_append, List.nil_append, List.getElem?_cons_zero, List.getElem?_cons_succ, List.set_cons_zero, List.set_cons_succ, Option.some.injEq, exists_eq_left', exists_eq_left, Option.bind_some, Nat.reduceAdd, Nat.reduceSub, List.replicate_succ, List.replicate_zero, Dt.bl.injEq, Dt.int.injEq, decide_eq_true_eq, decide_eq_false_iff_not, Bool.false_eq_true, if_true, if_false, Bool.not_eq_true', Bool.not_true, Bool.not_false, bne_iff_ne, ne_eq, ixD_fr0, ixD_fr1, ixD_pair0, ixD_pair1, Dt.ref.injEq, List.cons.injEq, and_true, true_and, reduceIte, exists_eq, Nat.zero_add, Dt.tup.injEq, and_self, and_assoc, exists_and_left, fr_inj, pl_inj, ite_true, ite_false]
  have h1 := big_lt h.1
  have h2 := big_lt h.2
  rw [abs_eq, if_neg (by omega), decide_eq_false (by omega)]
  exact rt_of hQ
theorem len_is_grown : ∀ ds S Q R, sp_is_grown ds S Q R → ds.length = 1 := by rintro ds S Q R ⟨q, rfl, _⟩; rfl
def sp_fit_fraction : SpD := fun ds S Q _ => ∃ q : Rat, ds = [fr q] ∧ Sz 1990 q ∧ Q (fr q) S
def t_fit_fraction : RS := rsSeq (rsIf (rTru (rCall sp_is_grown (rCons (rVar 0) rNil))) rsNever rsNext) (rsRet (rVar 0))
theorem hw_fit_fraction : ∀ ds St Q R, sp_fit_fraction ds St Q R → t_fit_fraction (endsD Q R) (startD ["one"] ds) St := by
  rintro ds S Q R ⟨q, rfl, h, hQ⟩
  simp only [t_fit_fraction, sp_is_grown, rsFor, rLc, wipeD, rsNext, rsSeq, rsDrop, rsRet, rsRetN, rsIf, rsAsg, rsPar, rsPar3, rsAug, rsSet, rsBreak, rsCont, rVar, rC, rBin, rTru, rTest, rChain, rNeg, rNot, rAnd, rOr, rIf, rAndV, rOrV, rNotV, rNil, rCons, rTup, rLst, rNone, rSome, rSl, rCall, rCallK, rBlt, rLRev, rMeth, rMeth0, rYes, wSeq, wEnum, wRev, wRng1, wRng2, addD_int, addD_tup, addD_str, addD_ref, subD_int, mulD_int, mulD_ref, mulD_tup, fdivD_int, modD_int, powD_int, cmpD_int, isD_non, isnD_non, iaddD_int, isNon_non, isNon_int, isNon_str, isNon_tup, isNon_fr, isNon_bl, eqD_int, neD_int, absD_int, intD_int, intD_bl, lenD_tup, lenD_ref, lenD_pl, listD_pl, tupleD_pl, seqW_pl, enumW_pl, revW_pl, slD_pl, isNon_pl, addD_pl, listD_tup, listD_ref, tupleD_tup, tupleD_ref, max2D_int, min2D_int, truD_int, truD_bl, truD_tup, truD_non, seqW_tup, seqW_ref, enumW_tup, enumW_ref, revW_tup, revW_ref, rngW1_int, rngW2_int, slD_tup, slD_ref, slD_frl, popD_ref, appendD_ref, extendD_ref, setD_ref, bindG_nm, bindG_tup, bindGs_nil, bindGs_cons, ixD_ref, startD, List.map_cons, List.map_nil, List.length_cons, List.length_nil, List.cons_append, List.nil_append, List.getElem?_cons_zero, List.getElem?_cons_succ, List.set_cons_zero, List.set_cons_succ, Option.some.injEq, exists_eq_left', exists_eq_left, Option.bind_some, Nat.reduceAdd, Nat.reduceSub, List.replicate_succ, List.replicate_zero, Dt.bl.injEq, Dt.int.injEq, decide_eq_true_eq, decide_eq_false_iff_not, Bool.false_eq_true, if_true, if_false, Bool.not_eq_true', Bool.not_true, Bool.not_false, bne_iff_ne, ne_eq, ixD_fr0, ixD_fr1, ixD_pair0, ixD_pair1, Dt.ref.injEq, List.cons.injEq, and_true, true_and, reduceIte, exists_eq, Nat.zero_add, Dt.tup.injEq, and_self, and_assoc, exists_and_left, fr_inj, pl_inj, ite_true, ite_false]
  exact ⟨h, rt_of hQ⟩
theorem len_fit_fraction : ∀ ds S Q R, sp_fit_fraction ds S Q R → ds.length = 1 := by rintro ds S Q R ⟨q, rfl, _⟩; rfl
def FitP (p : List Rat) : Prop := p.length ≤ 25 ∧ ∀ q ∈ p, Sz 1990 q
def sp_fit_polys : SpD := fun ds S Q _ => ∃ (a : Addr) (ps : List (List Rat)), ds = [.ref a] ∧ (lstOf S a = some (ps.map pl) ∧ ∀ p ∈ ps, FitP p) ∧ Q .non S
theorem loop_fit1 {D : EndsD} {G : Sto → Prop} {x0 x2 : Option Dt} {S : Sto} {tb : RS} (htb : tb = rsIf (rTest (rBin (cmpD fun i j => decide (j < i)) (rBlt lenD (rCons (rVar 1) rNil)) (rBin addD (rC (Dt.int 24)) (rC (Dt.int 1))))) rsNever rsNext) (g : G S) (hD : ∀ o, D.nx [x0, o, x2] S) : ∀ (ps : List (List Rat)) (o : Option Dt), (∀ p ∈ ps, FitP p) → forGo (.nm 1) tb D G (ps.map pl) [x0, o, x2] S
  | [], o, _ => ⟨g, hD o⟩
  | p :: ps, o, h => by
    refine ⟨g, _, bindG_nm, ?_⟩
    subst htb
    have hp := (h p (List.mem_cons_self ..)).1
    simp only [rsFor, rLc, wipeD, rsNext, rsSeq, rsDrop, rsRet, rsRetN, rsIf, rsAsg, rsPar, rsPar3, rsAug, rsSet, rsBreak, rsCont, rVar, rC, rBin, rTru, rTest, rChain, rNeg, rNot, rAnd, rOr, rIf, rAndV, rOrV, rNotV, rNil, rCons, rTup, rLst, rNone, rSome, rSl, rCall, rCallK, rBlt, rLRev, rMeth, rMeth0, rYes, wSeq, wEnum, wRev, wRng1, wRng2, addD_int, addD_tup, addD_str, addD_ref, subD_int, mulD_int, mulD_ref, mulD_tup, fdivD_int, modD_int, powD_int, cmpD_int, isD_non, isnD_non, iaddD_int, isNon_non, isNon_int, isNon_str, isNon_tup, isNon_fr, isNon_bl, eqD_int, neD_int, absD_int, intD_int, intD_bl, lenD_tup, lenD_ref, lenD_pl, listD_pl, tupleD_pl, seqW_pl, enumW_pl, revW_pl, slD_pl, isNon_pl, addD_pl, listD_tup, listD_ref, tupleD_tup, tupleD_ref, max2D_int, min2D_int, truD_int, truD_bl, truD_tup, truD_non, seqW_tup, seqW_ref, enumW_tup, enumW_ref, revW_tup, revW_ref, rngW1_int, rngW2_int, slD_tup, slD_ref, slD_frl, popD_ref, appendD_ref, extendD_ref, setD_ref, bindG_nm, bindG_tup, bindGs_nil, bindGs_cons, ixD_ref, startD, List.map_cons, List.map_nil, List.length_cons, List.length_nil, List.cons_append, List.nil_append, List.getElem?_cons_zero, List.getElem?_cons_succ, List.set_cons_zero, List.set_cons_succ, Option.some.injEq, exists_eq_left', exists_eq_left, Option.bind_some, Nat.reduceAdd, Nat.reduceSub, List.replicate_succ, List.replicate_zero, Dt.bl.injEq, Dt.int.injEq, decide_eq_true_eq, decide_eq_false_iff_not, Bool.false_eq_true, if_true, if_false, Bool.not_eq_true', Bool.not_true, Bool.not_false, bne_iff_ne, ne_eq, ixD_fr0, ixD_fr1, ixD_pair0, ixD_pair1, Dt.ref.injEq, List.cons.injEq, and_true, true_and, reduceIte, exists_eq, Nat.zero_add, Dt.tup.injEq, and_self, and_assoc, exists_and_left, fr_inj, pl_inj, ite_true, ite_false, pl, List.length_map]
    rw [if_neg (by omega)]
    exact loop_fit1 rfl g hD ps _ fun q hq => h q (List.mem_cons_of_mem _ hq)
theorem loop_fit3 {D : EndsD} {x0 x1 : Option Dt} {S : Sto} {tb : RS} (htb : tb = rsDrop (rCall sp_fit_fraction (rCons (rVar 2) rNil))) (hD : ∀ o, D.nx [x0, x1, o] S) : ∀ (p : List Rat) (o : Option Dt), (∀ q ∈ p, Sz 1990 q) → forGo (.nm 2) tb D (fun _ => True) (p.map fr) [x0, x1, o] S
  | [], o, _ => ⟨trivial, hD o⟩
  | q :: p, o, h => by
    refine ⟨trivial, _, bindG_nm, ?_⟩
    subst htb
    simp only [rsFor, rLc, wipeD, rsNext, rsSeq, rsDrop, rsRet, rsRetN, rsIf, rsAsg, rsPar, rsPar3, rsAug, rsSet, rsBreak, rsCont, rVar, rC, rBin, rTru, rTest, rChain, rNeg, rNot, rAnd, rOr, rIf, rAndV, rOrV, rNotV, rNil, rCons, rTup, rLst, rNone, rSome, rSl, rCall, rCallK, rBlt, rLRev, rMeth, rMeth0, rYes, wSeq, wEnum, wRev, wRng1, wRng2, addD_int, addD_tup, addD_str, addD_ref, subD_int, mulD_int, mulD_ref, mulD_tup, fdivD_int, modD_int, powD_int, cmpD_int, isD_non, isnD_non, iaddD_int, isNon_non, isNon_int, isNon_str, isNon_tup, isNon_fr, isNon_bl, eqD_int, neD_int, absD_int, intD_int, intD_bl, lenD_tup, lenD_ref, lenD_pl, listD_pl, tupleD_pl, seqW_pl, enumW_pl, revW_pl, slD_pl, isNon_pl, addD_pl, listD_tup, listD_ref, tupleD_tup, tupleD_ref, max2D_int, min2D_int, truD_int, truD_bl, truD_tup, truD_non, seqW_tup, seqW_ref, enumW_tup, enumW_ref, revW_tup, revW_ref, rngW1_int, rngW2_int, slD_tup, slD_ref, slD_frl, popD_ref, appendD_ref, extendD_ref, setD_ref, bindG_nm, bindG_tup, bindGs_nil, bindGs_cons, ixD_ref, startD, List.map_cons, List.map_nil, List.length_cons, List.length_nil, List.cons_append, List.nil_append, List.getElem?_cons_zero, List.getElem?_cons_succ, List.set_cons_zero, List.set_cons_succ, Option.some.injEq, exists_eq_left', exists_eq_left, Option.bind_some, Nat.reduceAdd, Nat.reduceSub, List.replicate_succ, List.replicate_zero, Dt.bl.injEq, Dt.int.injEq, decide_eq_true_eq, decide_eq_false_iff_not, Bool.false_eq_true, if_true, if_false, Bool.not_eq_true', Bool.not_true, Bool.not_false, bne_iff_ne, ne_eq, ixD_fr0, ixD_fr1, ixD_pair0, ixD_pair1, Dt.ref.injEq, List.cons.injEq, and_true, true_and, reduceIte, exists_eq, Nat.zero_add, Dt.tup.injEq, and_self, and_assoc, exists_and_left, fr_inj, pl_inj, ite_true, ite_false, sp_fit_fraction]
    exact ⟨h q (List.mem_cons_self ..), loop_fit3 rfl hD p _ fun q hq => h q (List.mem_cons_of_mem _ hq)⟩
theorem loop_fit2 {D : EndsD} {G : Sto → Prop} {x0 : Option Dt} {S : Sto} {tb : RS} (htb : tb = rsFor (wSeq (rVar 1)) (Tg.nm 2) (rsDrop (rCall sp_fit_fraction (rCons (rVar 2) rNil)))) (g : G S) (hD : ∀ o o2, D.nx [x0, o, o2] S) : ∀ (ps : List (List Rat)) (o o2 : Option Dt), (∀ p ∈ ps, FitP p) → forGo (.nm 1) tb D G (ps.map pl) [x0, o, o2] S
  | [], o, o2, _ => ⟨g, hD o o2⟩
  | p :: ps, o, o2, h => by
    refine ⟨g, _, bindG_nm, ?_⟩
    subst htb
    have hp := (h p (List.mem_cons_self ..)).2
    simp only [rsFor, rLc, wipeD, rsNext, rsSeq, rsDrop, rsRet, rsRetN, rsIf, rsAsg, rsPar, rsPar3, rsAug, rsSet, rsBreak, rsCont, rVar, rC, rBin, rTru, rTest, rChain, rNeg, rNot, rAnd, rOr, rIf, rAndV, rOrV, rNotV, rNil, rCons, rTup, rLst, rNone, rSome, rSl, rCall, rCallK, rBlt, rLRev, rMeth, rMeth0, rYes, wSeq, wEnum, wRev, wRng1, wRng2, addD_int, addD_tup, addD_str, addD_ref, subD_int, mulD_int, mulD_ref, mulD_tup, fdivD_int, modD_int, powD_int, cmpD_int, isD_non, isnD_non, iaddD_int, isNon_non, isNon_int, isNon_str, isNon_tup, isNon_fr, isNon_bl, eqD_int, neD_int, absD_int, intD_int, intD_bl, lenD_tup, lenD_ref, lenD_pl, listD_pl, tupleD_pl, seqW_pl, enumW_pl, revW_pl, slD_pl, isNon_pl, addD_pl, listD_tup, listD_ref, tupleD_tup, tupleD_ref, max2D_int, min2D_int, truD_int, truD_bl, truD_tup, truD_non, seqW_tup, seqW_ref, enumW_tup, enumW_ref, revW_tup, revW_ref, rngW1_int, rngW2_int, slD_tup, slD_ref, slD_frl, popD_ref, appendD_ref, extendD_ref, setD_ref, bindG_nm, bindG_tup, bindGs_nil, bindGs_cons, ixD_ref, startD, List.map_cons, List.map_nil, List.length_cons, List.length_nil, List.cons_append, List.nil_append, List.getElem?_cons_zero, List.getElem?_cons_succ, List.set_cons_zero, List.set_cons_succ, Option.some.injEq, exists_eq_left', exists_eq_left, Option.bind_some, Nat.reduceAdd, Nat.reduceSub, List.replicate_succ, List.replicate_zero, Dt.bl.injEq, Dt.int.injEq, decide_eq_true_eq, decide_eq_false_iff_not, Bool.false_eq_true, if_true, if_false, Bool.not_eq_true', Bool.not_true, Bool.not_false, bne_iff_ne, ne_eq, ixD_fr0, ixD_fr1, ixD_pair0, ixD_pair1, Dt.ref.injEq, List.cons.injEq, and_true, true_and, reduceIte, exists_eq, Nat.zero_add, Dt.tup.injEq, and_self, and_assoc, exists_and_left, fr_inj, pl_inj, ite_true, ite_false, pl]
    exact loop_fit3 rfl (fun o => loop_fit2 rfl g hD ps _ _ fun q hq => h q (List.mem_cons_of_mem _ hq)) p _ hp
def t_fit_polys : RS := rsSeq (rsFor (wSeq (rVar 0)) (Tg.nm 1) (rsIf (rTest (rBin (cmpD fun i j => decide (j < i)) (rBlt lenD (rCons (rVar 1) rNil)) (rBin addD (rC (Dt.int 24)) (rC (Dt.int 1))))) rsNever rsNext)) (rsFor (wSeq (rVar 0)) (Tg.nm 1) (rsFor (wSeq (rVar 1)) (Tg.nm 2) (rsDrop (rCall sp_fit_fraction (rCons (rVar 2) rNil)))))
theorem hw_fit_polys : ∀ ds St Q R, sp_fit_polys ds St Q R → t_fit_polys (endsD Q R) (startD ["polys", "poly", "one"] ds) St := by
  rintro ds S Q R ⟨a, ps, rfl, ⟨e, h⟩, hQ⟩
  simp only [t_fit_polys, rsFor, rLc, wipeD, rsNext, rsSeq, rsDrop, rsRet, rsRetN, rsIf, rsAsg, rsPar, rsPar3, rsAug, rsSet, rsBreak, rsCont, rVar, rC, rBin, rTru, rTest, rChain, rNeg, rNot, rAnd, rOr, rIf, rAndV, rOrV, rNotV, rNil, rCons, rTup, rLst, rNone, rSome, rSl, rCall, rCallK, rBlt, rLRev, rMeth, rMeth0, rYes, wSeq, wEnum, wRev, wRng1, wRng2, addD_int, addD_tup, addD_str, addD_ref, subD_int, mulD_int, mulD_ref, mulD_tup, fdivD_int, modD_int, powD_int, cmpD_int, isD_non, isnD_non, iaddD_int, isNon_non, isNon_int, isNon_str, isNon_tup, isNon_fr, isNon_bl, eqD_int, neD_int, absD_int, intD_int, intD_bl, lenD_tup, lenD_ref, lenD_pl, listD_pl, tupleD_pl, seqW_pl, enumW_pl, revW_pl, slD_pl, isNon_pl, addD_pl, listD_tup, listD_ref, tupleD_tup, tupleD_ref, max2D_int, min2D_int, truD_int, truD_bl, truD_tup, truD_non, seqW_tup, seqW_ref, enumW_tup, enumW_ref, revW_tup, revW_ref, rngW1_int, rngW2_int, slD_tup, slD_ref, slD_frl, popD_ref, appendD_ref, extendD_ref, setD_ref, bindG_nm, bindG_tup, bindGs_nil, bindGs_cons, ixD_ref, startD, List.map_cons, List.map_nil, List.length_cons, List.length_nil, List.cons_append, List.nil_append, List.getElem?_cons_zero, List.getElem?_cons_succ, List.set_cons_zero, List.set_cons_succ, Option.some.injEq, exists_eq_left', exists_eq_left, Option.bind_some, Nat.reduceAdd, Nat.reduceSub, List.replicate_succ, List.replicate_zero, Dt.bl.injEq, Dt.int.injEq, decide_eq_true_eq, decide_eq_false_iff_not, Bool.false_eq_true, if_true, if_false, Bool.not_eq_true', Bool.not_true, Bool.not_false, bne_iff_ne, ne_eq, ixD_fr0, ixD_fr1, ixD_pair0, ixD_pair1, Dt.ref.injEq, List.cons.injEq, and_true, true_and, reduceIte, exists_eq, Nat.zero_add, Dt.tup.injEq, and_self, and_assoc, exists_and_left, fr_inj, pl_inj, ite_true, ite_false, e]
  refine loop_fit1 rfl e (fun o => ?_) ps _ h
  simp only [rsFor, rLc, wipeD, rsNext, rsSeq, rsDrop, rsRet, rsRetN, rsIf, rsAsg, rsPar, rsPar3, rsAug, rsSet, rsBreak, rsCont, rVar, rC, rBin, rTru, rTest, rChain, rNeg, rNot, rAnd, rOr, rIf, rAndV, rOrV, rNotV, rNil, rCons, rTup, rLst, rNone, rSome, rSl, rCall, rCallK, rBlt, rLRev, rMeth, rMeth0, rYes, wSeq, wEnum, wRev, wRng1, wRng2, addD_int, addD_tup, addD_str, addD_ref, subD_int, mulD_int, mulD_ref, mulD_tup, fdivD_int, modD_int, powD_int, cmpD_int, isD_non, isnD_non, iaddD_int, isNon_non, isNon_int, isNon_str, isNon_tup, isNon_fr, isNon_bl, eqD_int, neD_int, absD_int, intD_int, intD_bl, lenD_tup, lenD_ref, lenD_pl, listD_pl, tupleD_pl, seqW_pl, enumW_pl, revW_pl, slD_pl, isNon_pl, addD_pl, listD_tup, listD_ref, tupleD_tup, tupleD_ref, max2D_int, min2D_int, truD_int, truD_bl, truD_tup, truD_non, seqW_tup, seqW_ref, enumW_tup, enumW_ref, revW_tup, revW_ref, rngW1_int, rngW2_int, slD_tup, slD_ref, slD_frl, popD_ref, appendD_ref, extendD_ref, setD_ref, bindG_nm, bindG_tup, bindGs_nil, bindGs_cons, ixD_ref, startD, List.map_cons, List.map_nil, List.length_cons, List.length_nil, List.cons_append, List.nil_append, List.getElem?_cons_zero, List.getElem?_cons_succ, List.set_cons_zero, List.set_cons_succ, Option.some.injEq, exists_eq_left', exists_eq_left, Option.bind_some, Nat.reduceAdd, Nat.reduceSub, List.replicate_succ, List.replicate_zero, Dt.bl.injEq, Dt.int.injEq, decide_eq_true_eq, decide_eq_false_iff_not, Bool.false_eq_true, if_true, if_false, Bool.not_eq_true', Bool.not_true, Bool.not_false, bne_iff_ne, ne_eq, ixD_fr0, ixD_fr1, ixD_pair0, ixD_pair1, Dt.ref.injEq, List.cons.injEq, and_true, true_and, reduceIte, exists_eq, Nat.zero_add, Dt.tup.injEq, and_self, and_assoc, exists_and_left, fr_inj, pl_inj, ite_true, ite_false, e]
  exact loop_fit2 rfl e (fun o o2 => nx_of hQ) ps _ _ h
theorem len_fit_polys : ∀ ds S Q R, sp_fit_polys ds S Q R → ds.length = 1 := by rintro ds S Q R ⟨q, ps, rfl, _⟩; rfl
def sp_fit_poly : SpD := fun ds S Q _ => ∃ p : List Rat, ds = [pl p] ∧ FitP p ∧ Q (pl p) S
def t_fit_poly : RS := rsSeq (rsDrop (rCall sp_fit_polys (rCons (rLst (rCons (rVar 0) rNil)) rNil))) (rsRet (rVar 0))
theorem hw_fit_poly : ∀ ds St Q R, sp_fit_poly ds St Q R → t_fit_poly (endsD Q R) (startD ["poly"] ds) St := by
  rintro ds S Q R ⟨p, rfl, h, hQ⟩
  simp only [t_fit_poly, sp_fit_polys, rsFor, rLc, wipeD, rsNext, rsSeq, rsDrop, rsRet, rsRetN, rsIf, rsAsg, rsPar, rsPar3, rsAug, rsSet, rsBreak, rsCont, rVar, rC, rBin, rTru, rTest, rChain, rNeg, rNot, rAnd, rOr, rIf, rAndV, rOrV, rNotV, rNil, rCons, rTup, rLst, rNone, rSome, rSl, rCall, rCallK, rBlt, rLRev, rMeth, rMeth0, rYes, wSeq, wEnum, wRev, wRng1, wRng2, addD_int, addD_tup, addD_str, addD_ref, subD_int, mulD_int, mulD_ref, mulD_tup, fdivD_int, modD_int, powD_int, cmpD_int, isD_non, isnD_non, iaddD_int, isNon_non, isNon_int, isNon_str, isNon_tup, isNon_fr, isNon_bl, eqD_int, neD_int, absD_int, intD_int, intD_bl, lenD_tup, lenD_ref, lenD_pl, listD_pl, tupleD_pl, seqW_pl, enumW_pl, revW_pl, slD_pl, isNon_pl, addD_pl, listD_tup, listD_ref, tupleD_tup, tupleD_ref, max2D_int, min2D_int, truD_int, truD_bl, truD_tup, truD_non, seqW_tup, seqW_ref, enumW_tup, enumW_ref, revW_tup, revW_ref, rngW1_int, rngW2_int, slD_tup, slD_ref, slD_frl, popD_ref, appendD_ref, extendD_ref, setD_ref, bindG_nm, bindG_tup, bindGs_nil, bindGs_cons, ixD_ref, startD, List.map_cons, List.map_nil, List.length_cons, List.length_nil, List.cons_append, List.nil_append, List.getElem?_cons_zero, List.getElem?_cons_succ, List.set_cons_zero, List.set_cons_succ, Option.some.injEq, exists_eq_left', exists_eq_left, Option.bind_some, Nat.reduceAdd, Nat.reduceSub, List.replicate_succ, List.replicate_zero, Dt.bl.injEq, Dt.int.injEq, decide_eq_true_eq, decide_eq_false_iff_not, Bool.false_eq_true, if_true, if_false, Bool.not_eq_true', Bool.not_true, Bool.not_false, bne_iff_ne, ne_eq, ixD_fr0, ixD_fr1, ixD_pair0, ixD_pair1, Dt.ref.injEq, List.cons.injEq, and_true, true_and, reduceIte, exists_eq, Nat.zero_add, Dt.tup.injEq, and_self, and_assoc, exists_and_left, fr_inj, pl_inj, ite_true, ite_false]
  refine ⟨by decide, fun a ha => ⟨[p], lst_same, ?_, rt_sub hQ (Sub.put ha)⟩⟩
  intro q hq
  rw [List.mem_singleton.mp hq]; exact h
theorem len_fit_poly : ∀ ds S Q R, sp_fit_poly ds S Q R → ds.length = 1 := by rintro ds S Q R ⟨q, rfl, _⟩; rfl
/-! ### trimmed -/
/-- a tuple or a list of fractions -/
def SeqP (S : Sto) (x : Dt) (p : List Rat) : Prop := x = pl p ∨ ∃ a, x = .ref a ∧ lstOf S a = some (p.map fr)
def sp_trimmed : SpD := fun ds S Q _ => ∃ (a : Addr) (p : List Rat), ds = [.ref a] ∧ lstOf S a = some (p.map fr) ∧ Q (pl (trim p)) S
theorem take_last {p : List Rat} {m : Nat} (h0 : 0 < m) (h1 : m ≤ p.length) : p.take m = p.take (m - 1) ++ [p[m - 1]'(by omega)] := by
  have := List.take_concat_get (l := p) (i := m - 1) (by omega)
  rw [Nat.sub_add_cancel h0] at this
  rw [← this, List.concat_eq_append]
def t_trimmed : RS := rsSeq (rsAsg (rBlt lenD (rCons (rVar 0) rNil)) (Tg.nm 1)) (rsSeq (rsWhile (rAnd (rTest (rBin (cmpD fun i j => decide (j < i)) (rVar 1) (rC (Dt.int 0)))) (rTest (rBin eqD (rBin ixD (rBin ixD (rVar 0) (rBin subD (rVar 1) (rC (Dt.int 1)))) (rC (Dt.int 0))) (rC (Dt.int 0))))) (rsAug 1 subD (rC (Dt.int 1)))) (rsRet (rBlt tupleD (rCons (rSl (rVar 0) rNone (rSome (rVar 1))) rNil))))
theorem atD_frs {p : List Rat} {i : Nat} (h : i < p.length) : atD (p.map fr) (i : Int) = some (fr p[i]) := by
  have e : ixN (p.map fr).length (i : Int) = some i := by
    unfold ixN
    rw [List.length_map, if_pos (by omega), if_pos (by omega)]
    rfl
  unfold atD
  rw [e]
  simp [h]
theorem cut_to {xs : List Dt} {m : Nat} (h : m ≤ xs.length) : cutD xs none (some (m : Int)) = xs.take m := by
  have e1 : HT.sIx xs.length 0 none = 0 := by simp [HT.sIx]
  have e2 : HT.sIx xs.length xs.length (some (m : Int)) = m := by
    rw [HT.sIx_nat]
    omega
  unfold cutD
  rw [e1, e2, List.drop_zero, Nat.sub_zero]
theorem hw_trimmed : ∀ ds St Q R, sp_trimmed ds St Q R → t_trimmed (endsD Q R) (startD ["items", "many"] ds) St := by
  rintro ds S Q R ⟨a, p, rfl, e, hQ⟩
  simp only [t_trimmed, rsFor, rLc, wipeD, rsNext, rsSeq, rsDrop, rsRet, rsRetN, rsIf, rsAsg, rsPar, rsPar3, rsAug, rsSet, rsBreak, rsCont, rVar, rC, rBin, rTru, rTest, rChain, rNeg, rNot, rAnd, rOr, rIf, rAndV, rOrV, rNotV, rNil, rCons, rTup, rLst, rNone, rSome, rSl, rCall, rCallK, rBlt, rLRev, rMeth, rMeth0, rYes, wSeq, wEnum, wRev, wRng1, wRng2, addD_int, addD_tup, addD_str, addD_ref, subD_int, mulD_int, mulD_ref, mulD_tup, fdivD_int, modD_int, powD_int, cmpD_int, isD_non, isnD_non, iaddD_int, isNon_non, isNon_int, isNon_str, isNon_tup, isNon_fr, isNon_bl, eqD_int, neD_int, absD_int, intD_int, intD_bl, lenD_tup, lenD_ref, lenD_pl, listD_pl, tupleD_pl, seqW_pl, enumW_pl, revW_pl, slD_pl, isNon_pl, addD_pl, listD_tup, listD_ref, tupleD_tup, tupleD_ref, max2D_int, min2D_int, truD_int, truD_bl, truD_tup, truD_non, seqW_tup, seqW_ref, enumW_tup, enumW_ref, revW_tup, revW_ref, rngW1_int, rngW2_int, slD_tup, slD_ref, slD_frl, popD_ref, appendD_ref, extendD_ref, setD_ref, bindG_nm, bindG_tup, bindGs_nil, bindGs_cons, ixD_ref, startD, List.map_cons, List.map_nil, List.length_cons, List.length_nil, List.cons_append, List.nil_append, List.getElem?_cons_zero, List.getElem?_cons_succ, List.set_cons_zero, List.set_cons_succ, Option.some.injEq, exists_eq_left', exists_eq_left, Option.bind_some, Nat.reduceAdd, Nat.reduceSub, List.replicate_succ, List.replicate_zero, Dt.bl.injEq, Dt.int.injEq, decide_eq_true_eq, decide_eq_false_iff_not, Bool.false_eq_true, if_true, if_false, Bool.not_eq_true', Bool.not_true, Bool.not_false, bne_iff_ne, ne_eq, ixD_fr0, ixD_fr1, ixD_pair0, ixD_pair1, Dt.ref.injEq, List.cons.injEq, and_true, true_and, reduceIte, exists_eq, Nat.zero_add, Dt.tup.injEq, and_self, and_assoc, exists_and_left, fr_inj, pl_inj, ite_true, ite_false, e]
  refine while_rule (fun m σ S' => S' = S ∧ m ≤ p.length ∧ trim (p.take m) = trim p ∧ σ = [some (.ref a), some (.int (m : Int))]) p.length ⟨rfl, Nat.le_refl _, by rw [List.take_length], by rw [List.length_map]⟩ ?_
  rintro m σ S' ⟨rfl, hm, ht, rfl⟩
  simp only [rsFor, rLc, wipeD, rsNext, rsSeq, rsDrop, rsRet, rsRetN, rsIf, rsAsg, rsPar, rsPar3, rsAug, rsSet, rsBreak, rsCont, rVar, rC, rBin, rTru, rTest, rChain, rNeg, rNot, rAnd, rOr, rIf, rAndV, rOrV, rNotV, rNil, rCons, rTup, rLst, rNone, rSome, rSl, rCall, rCallK, rBlt, rLRev, rMeth, rMeth0, rYes, wSeq, wEnum, wRev, wRng1, wRng2, addD_int, addD_tup, addD_str, addD_ref, subD_int, mulD_int, mulD_ref, mulD_tup, fdivD_int, modD_int, powD_int, cmpD_int, isD_non, isnD_non, iaddD_int, isNon_non, isNon_int, isNon_str, isNon_tup, isNon_fr, isNon_bl, eqD_int, neD_int, absD_int, intD_int, intD_bl, lenD_tup, lenD_ref, lenD_pl, listD_pl, tupleD_pl, seqW_pl, enumW_pl, revW_pl, slD_pl, isNon_pl, addD_pl, listD_tup, listD_ref, tupleD_tup, tupleD_ref, max2D_int, min2D_int, truD_int, truD_bl, truD_tup, truD_non, seqW_tup, seqW_ref, enumW_tup, enumW_ref, revW_tup, revW_ref, rngW1_int, rngW2_int, slD_tup, slD_ref, slD_frl, popD_ref, appendD_ref, extendD_ref, setD_ref, bindG_nm, bindG_tup, bindGs_nil, bindGs_cons, ixD_ref, startD, List.map_cons, List.map_nil, List.length_cons, List.length_nil, List.cons_append, List.nil_append, List.getElem?_cons_zero, List.getElem?_cons_succ, List.set_cons_zero, List.set_cons_succ, Option.some.injEq, exists_eq_left', exists_eq_left, Option.bind_some, Nat.reduceAdd, Nat.reduceSub, List.replicate_succ, List.replicate_zero, Dt.bl.injEq, Dt.int.injEq, decide_eq_true_eq, decide_eq_false_iff_not, Bool.false_eq_true, if_true, if_false, Bool.not_eq_true', Bool.not_true, Bool.not_false, bne_iff_ne, ne_eq, ixD_fr0, ixD_fr1, ixD_pair0, ixD_pair1, Dt.ref.injEq, List.cons.injEq, and_true, true_and, reduceIte, exists_eq, Nat.zero_add, Dt.tup.injEq, and_self, and_assoc, exists_and_left, fr_inj, pl_inj, ite_true, ite_false, e]
  have fin : (trim (p.take m) = p.take m) → ∀ (p_1 : Addr), S' p_1 = none → ∃ xs, lstOf (put S' p_1 (Ob.lst (cutD (List.map fr p) none (some ↑m)))) p_1 = some xs ∧ (endsD Q R).rt (Dt.tup xs) (put S' p_1 (Ob.lst (cutD (List.map fr p) none (some ↑m)))) := by
    intro h q hq
    refine ⟨_, lst_same, ?_⟩
    rw [cut_to (by rw [List.length_map]; exact hm), ← List.map_take]
    refine rt_sub ?_ (Sub.put hq)
    rw [← h, ht]
    exact hQ
  split
  · rename_i h0
    have h0 : 0 < m := by omega
    have e1 : ((m : Int) - 1) = ((m - 1 : Nat) : Int) := by omega
    have hl : m - 1 < p.length := by omega
    have tl := take_last h0 hm
    rw [e1]
    refine ⟨_, atD_frs hl, ?_⟩
    simp only [rsFor, rLc, wipeD, rsNext, rsSeq, rsDrop, rsRet, rsRetN, rsIf, rsAsg, rsPar, rsPar3, rsAug, rsSet, rsBreak, rsCont, rVar, rC, rBin, rTru, rTest, rChain, rNeg, rNot, rAnd, rOr, rIf, rAndV, rOrV, rNotV, rNil, rCons, rTup, rLst, rNone, rSome, rSl, rCall, rCallK, rBlt, rLRev, rMeth, rMeth0, rYes, wSeq, wEnum, wRev, wRng1, wRng2, addD_int, addD_tup, addD_str, addD_ref, subD_int, mulD_int, mulD_ref, mulD_tup, fdivD_int, modD_int, powD_int, cmpD_int, isD_non, isnD_non, iaddD_int, isNon_non, isNon_int, isNon_str, isNon_tup, isNon_fr, isNon_bl, eqD_int, neD_int, absD_int, intD_int, intD_bl, lenD_tup, lenD_ref, lenD_pl, listD_pl, tupleD_pl, seqW_pl, enumW_pl, revW_pl, slD_pl, isNon_pl, addD_pl, listD_tup, listD_ref, tupleD_tup, tupleD_ref, max2D_int, min2D_int, truD_int, truD_bl, truD_tup, truD_non, seqW_tup, seqW_ref, enumW_tup, enumW_ref, revW_tup, revW_ref, rngW1_int, rngW2_int, slD_tup, slD_ref, slD_frl, popD_ref, appendD_ref, extendD_ref, setD_ref, bindG_nm, bindG_tup, bindGs_nil, bindGs_cons, ixD_ref, startD, List.map_cons, List.map_nil, List.length_cons, List.length_nil, List.cons_append, List.nil_append, List.getElem?_cons_zero, List.getElem?_cons_succ, List.set_cons_zero, List.set_cons_succ, Option.some.injEq, exists_eq_left', exists_eq_left, Option.bind_some, Nat.reduceAdd, Nat.reduceSub, List.replicate_succ, List.replicate_zero, Dt.bl.injEq, Dt.int.injEq, decide_eq_true_eq, decide_eq_false_iff_not, Bool.false_eq_true, if_true, if_false, Bool.not_eq_true', Bool.not_true, Bool.not_false, bne_iff_ne, ne_eq, ixD_fr0, ixD_fr1, ixD_pair0, ixD_pair1, Dt.ref.injEq, List.cons.injEq, and_true, true_and, reduceIte, exists_eq, Nat.zero_add, Dt.tup.injEq, and_self, and_assoc, exists_and_left, fr_inj, pl_inj, ite_true, ite_false, e]
    split
    · rename_i hz
      refine ⟨_, fun _ _ h => h, m - 1, by omega, rfl, by omega, ?_, rfl⟩
      rw [← ht, tl, trim_snoc, if_pos (Rat.num_eq_zero.mp hz)]
    · rename_i hz
      refine fin ?_
      rw [tl, trim_snoc, if_neg (fun z => hz (Rat.num_eq_zero.mpr z))]
  · rename_i h0
    have : m = 0 := by omega
    subst this
    exact fin rfl
theorem len_trimmed : ∀ ds S Q R, sp_trimmed ds S Q R → ds.length = 1 := by rintro ds S Q R ⟨a, p, rfl, _⟩; rfl
end Ev

namespace Ev
open PySem PySem.Spec PyProof.Rows L2
def t_poly_plus : RS := rsSeq (rsAsg (rIf (rTest (rBin (cmpD fun i j => decide (j ≤ i)) (rBlt lenD (rCons (rVar 0) rNil)) (rBlt lenD (rCons (rVar 1) rNil)))) (rTup (rCons (rVar 0) (rCons (rVar 1) rNil))) (rTup (rCons (rVar 1) (rCons (rVar 0) rNil)))) (Tg.tup [Tg.nm 3, Tg.nm 4])) (rsSeq (rsAsg (rBlt listD (rCons (rVar 3) rNil)) (Tg.nm 2)) (rsSeq (rsFor (wEnum (rVar 4)) (Tg.tup [Tg.nm 5, Tg.nm 6]) (rsSet (rCall sp_plus (rCons (rBin ixD (rVar 2) (rVar 5)) (rCons (rVar 6) rNil))) (rVar 2) (rVar 5))) (rsRet (rCall sp_trimmed (rCons (rVar 2) rNil)))))
def t_poly_times : RS := rsSeq (rsIf (rOr (rTest (rBin eqD (rVar 0) (rTup rNil))) (rTest (rBin eqD (rVar 1) (rTup rNil)))) (rsRet (rTup rNil)) rsNext) (rsSeq (rsAsg (rBin mulD (rLst (rCons (rC (Dt.tup [Dt.int 0, Dt.int 1])) rNil)) (rBin subD (rBin addD (rBlt lenD (rCons (rVar 0) rNil)) (rBlt lenD (rCons (rVar 1) rNil))) (rC (Dt.int 1)))) (Tg.nm 2)) (rsSeq (rsFor (wEnum (rVar 0)) (Tg.tup [Tg.nm 3, Tg.nm 4]) (rsFor (wEnum (rVar 1)) (Tg.tup [Tg.nm 5, Tg.nm 6]) (rsSet (rCall sp_plus (rCons (rBin ixD (rVar 2) (rBin addD (rVar 3) (rVar 5))) (rCons (rCall sp_times (rCons (rVar 4) (rCons (rVar 6) rNil))) rNil))) (rVar 2) (rBin addD (rVar 3) (rVar 5))))) (rsRet (rCall sp_trimmed (rCons (rVar 2) rNil)))))
def t_poly_by : RS := rsSeq (rsIf (rTest (rBin eqD (rBin ixD (rVar 0) (rC (Dt.int 0))) (rC (Dt.int 0)))) (rsRet (rTup rNil)) rsNext) (rsRet (rBlt tupleD (rCons (rLc (wSeq (rVar 1)) (Tg.nm 2) rYes (rCall sp_times (rCons (rVar 0) (rCons (rVar 2) rNil))) [2]) rNil)))
def t_value_at : RS := rsSeq (rsAsg (rC (Dt.tup [Dt.int 0, Dt.int 1])) (Tg.nm 2)) (rsSeq (rsFor (wRev (rVar 0)) (Tg.nm 3) (rsAsg (rCall sp_plus (rCons (rCall sp_times (rCons (rVar 2) (rCons (rVar 1) rNil))) (rCons (rVar 3) rNil))) (Tg.nm 2))) (rsRet (rVar 2)))
def t_slope_of : RS := rsRet (rBlt tupleD (rCons (rLc (wEnum (rVar 0)) (Tg.tup [Tg.nm 1, Tg.nm 2]) (rTest (rBin (cmpD fun i j => decide (j < i)) (rVar 1) (rC (Dt.int 0)))) (rCall sp_times (rCons (rTup (rCons (rVar 1) (rCons (rC (Dt.int 1)) rNil))) (rCons (rVar 2) rNil))) [1, 2]) rNil))
/-! ### loops over the items -/
def pw (x : Rat) : Nat → Rat
  | 0 => 1
  | k + 1 => x * pw x k
theorem pw_add (x : Rat) (a b : Nat) : pw x (a + b) = pw x a * pw x b := by
  induction a with
  | zero => rw [Nat.zero_add]; simp only [pw]; grind
  | succ a ih => rw [Nat.succ_add]; simp only [pw, ih]; grind
theorem ev_set (x c : Rat) : ∀ (f : List Rat) (k : Nat) (h : k < f.length), ev (f.set k c) x = ev f x + pw x k * (c - f[k])
  | a :: f, 0, _ => by simp only [List.set_cons_zero, ev, pw, List.getElem_cons_zero]; grind
  | a :: f, k + 1, h => by
    have ih := ev_set x c f k (by simpa using h)
    simp only [List.set_cons_succ, ev, pw, List.getElem_cons_succ, ih]; grind
theorem sz_mono {m n : Nat} {q : Rat} (h : Sz m q) (hm : m ≤ n) : Sz n q :=
  ⟨Nat.lt_of_lt_of_le h.1 (Nat.pow_le_pow_right (by omega) hm), Nat.lt_of_lt_of_le h.2 (Nat.pow_le_pow_right (by omega) hm)⟩
theorem sz_zero {n : Nat} : 0 < n → Sz n 0 := fun h => ⟨by
  show (0 : Rat).num.natAbs < _
  exact Nat.two_pow_pos _, by
  show (0 : Rat).den < _
  have : (0 : Rat).den = 1 := rfl
  rw [this]
  exact Nat.one_lt_two_pow (by omega)⟩
theorem zero_fr : Dt.tup [.int 0, .int 1] = fr 0 := rfl
theorem one_fr : Dt.tup [.int 1, .int 1] = fr 1 := rfl
theorem frs_set {f : List Rat} {k : Nat} {c : Rat} : (f.map fr).set k (fr c) = (f.set k c).map fr := by rw [List.map_set]
theorem ixN_lt {n k : Nat} (h : k < n) : ixN n (k : Int) = some k := by
  unfold ixN
  rw [if_pos (by omega), if_pos (by omega)]
  rfl
/-- found[k] = plus(found[k], item) -/
def tb_plus (sp : SpD) (cf ck ci : Nat) : RS := rsSet (rCall sp (rCons (rBin ixD (rVar cf) (rVar ck)) (rCons (rVar ci) rNil))) (rVar cf) (rVar ck)
theorem loop_plus {D : EndsD} {F : Addr} {x0 x1 x3 x4 : Option Dt} {T : Rat → Rat} {L : Nat} {S0 : Sto} {tb : RS} (htb : tb = tb_plus sp_plus 2 5 6)
    (hD : ∀ x5 x6 g, g.length = L → (∀ x, ev g x = T x) → D.nx [x0, x1, some (.ref F), x3, x4, x5, x6] (put S0 F (.lst (g.map fr)))) :
    ∀ (rest : List Rat) (k : Nat) (f : List Rat) (x5 x6 : Option Dt), f.length = L → k + rest.length ≤ L → (∀ x, T x = ev f x + pw x k * ev rest x) → (∀ q ∈ rest, Sz 4000 q) → (∀ j : Nat, k ≤ j → ∀ h : j < f.length, Sz 4000 f[j]) →
      forGo (.tup [.nm 5, .nm 6]) tb D (fun _ => True) (enumD k (rest.map fr)) [x0, x1, some (.ref F), x3, x4, x5, x6] (put S0 F (.lst (f.map fr)))
  | [], k, f, x5, x6, hl, hk, hT, _, _ => ⟨trivial, hD x5 x6 f hl fun x => by rw [hT x]; simp only [ev]; grind⟩
  | q :: rest, k, f, x5, x6, hl, hk, hT, hr, hf => by
    rw [List.length_cons] at hk
    have hkl : k < f.length := by omega
    refine ⟨trivial, _, by simp only [bindG_tup, bindGs_cons, bindGs_nil, bindG_nm, Option.bind_some]; rfl, ?_⟩
    subst htb
    simp only [tb_plus, sp_plus, rsFor, rLc, wipeD, rsNext, rsSeq, rsDrop, rsRet, rsRetN, rsIf, rsAsg, rsPar, rsPar3, rsAug, rsSet, rsBreak, rsCont, rVar, rC, rBin, rTru, rTest, rChain, rNeg, rNot, rAnd, rOr, rIf, rAndV, rOrV, rNotV, rNil, rCons, rTup, rLst, rNone, rSome, rSl, rCall, rCallK, rBlt, rLRev, rMeth, rMeth0, rYes, wSeq, wEnum, wRev, wRng1, wRng2, addD_int, addD_tup, addD_str, addD_ref, subD_int, mulD_int, mulD_ref, mulD_tup, fdivD_int, modD_int, powD_int, cmpD_int, isD_non, isnD_non, iaddD_int, isNon_non, isNon_int, isNon_str, isNon_tup, isNon_fr, isNon_bl, eqD_int, neD_int, absD_int, intD_int, intD_bl, lenD_tup, lenD_ref, lenD_pl, listD_pl, tupleD_pl, seqW_pl, enumW_pl, revW_pl, slD_pl, isNon_pl, addD_pl, listD_tup, listD_ref, tupleD_tup, tupleD_ref, max2D_int, min2D_int, truD_int, truD_bl, truD_tup, truD_non, seqW_tup, seqW_ref, enumW_tup, enumW_ref, revW_tup, revW_ref, rngW1_int, rngW2_int, slD_tup, slD_ref, slD_frl, popD_ref, appendD_ref, extendD_ref, setD_ref, bindG_nm, bindG_tup, bindGs_nil, bindGs_cons, ixD_ref, startD, List.map_cons, List.map_nil, List.length_cons, List.length_nil, List.cons_append, List.nil_append, List.getElem?_cons_zero, List.getElem?_cons_succ, List.set_cons_zero, List.set_cons_succ, Option.some.injEq, exists_eq_left', exists_eq_left, Option.bind_some, Nat.reduceAdd, Nat.reduceSub, List.replicate_succ, List.replicate_zero, Dt.bl.injEq, Dt.int.injEq, decide_eq_true_eq, decide_eq_false_iff_not, Bool.false_eq_true, if_true, if_false, Bool.not_eq_true', Bool.not_true, Bool.not_false, bne_iff_ne, ne_eq, ixD_fr0, ixD_fr1, ixD_pair0, ixD_pair1, Dt.ref.injEq, List.cons.injEq, and_true, true_and, reduceIte, exists_eq, Nat.zero_add, Dt.tup.injEq, and_self, and_assoc, exists_and_left, fr_inj, pl_inj, ite_true, ite_false, lst_same, atD_frs hkl]
    refine ⟨hf k (Nat.le_refl _) hkl, hr q (List.mem_cons_self ..), _, put_same, k, by rw [List.length_map]; exact ixN_lt hkl, ?_⟩
    rw [put_put, frs_set]
    refine loop_plus rfl hD rest (k + 1) (f.set k (f[k] + q)) _ _ (by rw [List.length_set]; exact hl) (by omega) (fun x => ?_) (fun a ha => hr a (List.mem_cons_of_mem _ ha)) (fun j hj h => ?_)
    · rw [hT x, ev_set x _ f k hkl]; simp only [ev, pw]; grind
    · rw [List.getElem_set_ne (by omega)]
      exact hf j (by omega) _
/-! ### the program's polynomials -/
def sp_poly_plus : SpD := fun ds S Q _ => ∃ p q : List Rat, ds = [pl p, pl q] ∧ ((∀ a ∈ p, Sz 4000 a) ∧ (∀ a ∈ q, Sz 4000 a)) ∧ Q (pl (pAdd p q)) S
theorem pl_eq {p : List Rat} : Dt.tup (p.map fr) = pl p := rfl
theorem hw_poly_plus : ∀ ds St Q R, sp_poly_plus ds St Q R → t_poly_plus (endsD Q R) (startD ["one", "other", "found", "longer", "shorter", "k", "item"] ds) St := by
  rintro ds S Q R ⟨p, q, rfl, ⟨hp, hq⟩, hQ⟩
  have key : ∀ (l s : List Rat), s.length ≤ l.length → (∀ a ∈ l, Sz 4000 a) → (∀ a ∈ s, Sz 4000 a) → (∀ x, ev l x + ev s x = ev p x + ev q x) → ∀ F, S F = none →
      forGo (.tup [.nm 5, .nm 6]) (tb_plus sp_plus 2 5 6) { nx := rsRet (rCall sp_trimmed (rCons (rVar 2) rNil)) (endsD Q R), rt := (endsD Q R).rt, bk := (endsD Q R).bk, ct := (endsD Q R).ct, ex := (endsD Q R).ex } (fun _ => True) (enumD 0 (s.map fr)) [some (pl p), some (pl q), some (.ref F), some (pl l), some (pl s), none, none] (put S F (.lst (l.map fr))) := by
    intro l s hls hl hs hev F hF
    refine loop_plus (T := fun x => ev p x + ev q x) (L := l.length) rfl (fun x5 x6 g hg hT => ?_) s 0 l _ _ rfl (by omega) (fun x => by rw [← hev]; simp only [pw]; grind) hs (fun j _ h => hl _ (List.getElem_mem h))
    simp only [sp_trimmed, rsFor, rLc, wipeD, rsNext, rsSeq, rsDrop, rsRet, rsRetN, rsIf, rsAsg, rsPar, rsPar3, rsAug, rsSet, rsBreak, rsCont, rVar, rC, rBin, rTru, rTest, rChain, rNeg, rNot, rAnd, rOr, rIf, rAndV, rOrV, rNotV, rNil, rCons, rTup, rLst, rNone, rSome, rSl, rCall, rCallK, rBlt, rLRev, rMeth, rMeth0, rYes, wSeq, wEnum, wRev, wRng1, wRng2, addD_int, addD_tup, addD_str, addD_ref, subD_int, mulD_int, mulD_ref, mulD_tup, fdivD_int, modD_int, powD_int, cmpD_int, isD_non, isnD_non, iaddD_int, isNon_non, isNon_int, isNon_str, isNon_tup, isNon_fr, isNon_bl, eqD_int, neD_int, absD_int, intD_int, intD_bl, lenD_tup, lenD_ref, lenD_pl, listD_pl, tupleD_pl, seqW_pl, enumW_pl, revW_pl, slD_pl, isNon_pl, addD_pl, listD_tup, listD_ref, tupleD_tup, tupleD_ref, max2D_int, min2D_int, truD_int, truD_bl, truD_tup, truD_non, seqW_tup, seqW_ref, enumW_tup, enumW_ref, revW_tup, revW_ref, rngW1_int, rngW2_int, slD_tup, slD_ref, slD_frl, popD_ref, appendD_ref, extendD_ref, setD_ref, bindG_nm, bindG_tup, bindGs_nil, bindGs_cons, ixD_ref, startD, List.map_cons, List.map_nil, List.length_cons, List.length_nil, List.cons_append, List.nil_append, List.getElem?_cons_zero, List.getElem?_cons_succ, List.set_cons_zero, List.set_cons_succ, Option.some.injEq, exists_eq_left', exists_eq_left, Option.bind_some, Nat.reduceAdd, Nat.reduceSub, List.replicate_succ, List.replicate_zero, Dt.bl.injEq, Dt.int.injEq, decide_eq_true_eq, decide_eq_false_iff_not, Bool.false_eq_true, if_true, if_false, Bool.not_eq_true', Bool.not_true, Bool.not_false, bne_iff_ne, ne_eq, ixD_fr0, ixD_fr1, ixD_pair0, ixD_pair1, Dt.ref.injEq, List.cons.injEq, and_true, true_and, reduceIte, exists_eq, Nat.zero_add, Dt.tup.injEq, and_self, and_assoc, exists_and_left, fr_inj, pl_inj, ite_true, ite_false]
    refine ⟨g, lst_same, rt_sub ?_ (Sub.put hF)⟩
    have e : trim g = pAdd p q := trim_eq fun x => by rw [hT, ev_addR]
    rw [e]
    exact hQ
  simp only [t_poly_plus, pl, rsFor, rLc, wipeD, rsNext, rsSeq, rsDrop, rsRet, rsRetN, rsIf, rsAsg, rsPar, rsPar3, rsAug, rsSet, rsBreak, rsCont, rVar, rC, rBin, rTru, rTest, rChain, rNeg, rNot, rAnd, rOr, rIf, rAndV, rOrV, rNotV, rNil, rCons, rTup, rLst, rNone, rSome, rSl, rCall, rCallK, rBlt, rLRev, rMeth, rMeth0, rYes, wSeq, wEnum, wRev, wRng1, wRng2, addD_int, addD_tup, addD_str, addD_ref, subD_int, mulD_int, mulD_ref, mulD_tup, fdivD_int, modD_int, powD_int, cmpD_int, isD_non, isnD_non, iaddD_int, isNon_non, isNon_int, isNon_str, isNon_tup, isNon_fr, isNon_bl, eqD_int, neD_int, absD_int, intD_int, intD_bl, lenD_tup, lenD_ref, lenD_pl, listD_pl, tupleD_pl, seqW_pl, enumW_pl, revW_pl, slD_pl, isNon_pl, addD_pl, listD_tup, listD_ref, tupleD_tup, tupleD_ref, max2D_int, min2D_int, truD_int, truD_bl, truD_tup, truD_non, seqW_tup, seqW_ref, enumW_tup, enumW_ref, revW_tup, revW_ref, rngW1_int, rngW2_int, slD_tup, slD_ref, slD_frl, popD_ref, appendD_ref, extendD_ref, setD_ref, bindG_nm, bindG_tup, bindGs_nil, bindGs_cons, ixD_ref, startD, List.map_cons, List.map_nil, List.length_cons, List.length_nil, List.cons_append, List.nil_append, List.getElem?_cons_zero, List.getElem?_cons_succ, List.set_cons_zero, List.set_cons_succ, Option.some.injEq, exists_eq_left', exists_eq_left, Option.bind_some, Nat.reduceAdd, Nat.reduceSub, List.replicate_succ, List.replicate_zero, Dt.bl.injEq, Dt.int.injEq, decide_eq_true_eq, decide_eq_false_iff_not, Bool.false_eq_true, if_true, if_false, Bool.not_eq_true', Bool.not_true, Bool.not_false, bne_iff_ne, ne_eq, ixD_fr0, ixD_fr1, ixD_pair0, ixD_pair1, Dt.ref.injEq, List.cons.injEq, and_true, true_and, reduceIte, exists_eq, Nat.zero_add, Dt.tup.injEq, and_self, and_assoc, exists_and_left, fr_inj, pl_inj, ite_true, ite_false]
  split
  · rename_i h
    refine ⟨by decide, fun F hF => ?_⟩
    exact key p q (by simpa using h) hp hq (fun x => rfl) F hF
  · rename_i h
    refine ⟨by decide, fun F hF => ?_⟩
    refine key q p ?_ hq hp (fun x => by grind) F hF
    simp only [List.length_map] at h
    omega
theorem len_poly_plus : ∀ ds S Q R, sp_poly_plus ds S Q R → ds.length = 2 := by rintro ds S Q R ⟨p, q, rfl, _⟩; rfl
/-- how great a product's items may be -/
def MulPre (p q : List Rat) : Prop := ∃ D1 M1 D2 M2 : Nat, WL D1 M1 p ∧ WL D2 M2 q ∧ p.length ≤ 25 ∧ q.length ≤ 25 ∧ 0 < D1 ∧ 0 < D2 ∧ 0 < M1 ∧ 0 < M2 ∧ D1 * D2 < 2 ^ 1900 ∧ 700 * (M1 * M2) * (D1 * D2) < 2 ^ 1900
def tb_mul (spp spt : SpD) : RS := rsSet (rCall spp (rCons (rBin ixD (rVar 2) (rBin addD (rVar 3) (rVar 5))) (rCons (rCall spt (rCons (rVar 4) (rCons (rVar 6) rNil))) rNil))) (rVar 2) (rBin addD (rVar 3) (rVar 5))
theorem loop_mul1 {D : EndsD} {F : Addr} {x0 x1 : Option Dt} {i : Nat} {a : Rat} {T : Rat → Rat} {L E B : Nat} {S0 : Sto} {tb : RS} (htb : tb = tb_mul sp_plus sp_times) (hE : 0 < E) (hE2 : E < 2 ^ 1900) (hB : 700 * B * E < 2 ^ 1900) {c1 : Nat} (hc1 : c1 ≤ 690)
    (ha : Sz 4000 a) (hD : ∀ x5 x6 g, g.length = L → (∀ x, ev g x = T x) → WL E (c1 * B) g → D.nx [x0, x1, some (.ref F), some (.int (i : Nat)), some (fr a), x5, x6] (put S0 F (.lst (g.map fr)))) :
    ∀ (rest : List Rat) (j c : Nat) (f : List Rat) (x5 x6 : Option Dt), f.length = L → i + j + rest.length ≤ L → c + rest.length = c1 → WL E (c * B) f → (∀ x, T x = ev f x + pw x (i + j) * a * ev rest x) → (∀ q ∈ rest, Sz 4000 q ∧ W E B (a * q)) →
      forGo (.tup [.nm 5, .nm 6]) tb D (fun _ => True) (enumD j (rest.map fr)) [x0, x1, some (.ref F), some (.int (i : Nat)), some (fr a), x5, x6] (put S0 F (.lst (f.map fr)))
  | [], j, c, f, x5, x6, hl, hk, hc, hf, hT, _ => ⟨trivial, hD x5 x6 f hl (fun x => by rw [hT x]; simp only [ev]; grind) (by rw [List.length_nil, Nat.add_zero] at hc; rw [← hc]; exact hf)⟩
  | q :: rest, j, c, f, x5, x6, hl, hk, hc, hf, hT, hr => by
    rw [List.length_cons] at hk hc
    have hkl : i + j < f.length := by omega
    obtain ⟨hq, hw⟩ := hr q (List.mem_cons_self ..)
    refine ⟨trivial, _, by simp only [bindG_tup, bindGs_cons, bindGs_nil, bindG_nm, Option.bind_some]; rfl, ?_⟩
    subst htb
    have eij : (i : Int) + (j : Int) = ((i + j : Nat) : Int) := by omega
    simp only [tb_mul, sp_plus, sp_times, rsFor, rLc, wipeD, rsNext, rsSeq, rsDrop, rsRet, rsRetN, rsIf, rsAsg, rsPar, rsPar3, rsAug, rsSet, rsBreak, rsCont, rVar, rC, rBin, rTru, rTest, rChain, rNeg, rNot, rAnd, rOr, rIf, rAndV, rOrV, rNotV, rNil, rCons, rTup, rLst, rNone, rSome, rSl, rCall, rCallK, rBlt, rLRev, rMeth, rMeth0, rYes, wSeq, wEnum, wRev, wRng1, wRng2, addD_int, addD_tup, addD_str, addD_ref, subD_int, mulD_int, mulD_ref, mulD_tup, fdivD_int, modD_int, powD_int, cmpD_int, isD_non, isnD_non, iaddD_int, isNon_non, isNon_int, isNon_str, isNon_tup, isNon_fr, isNon_bl, eqD_int, neD_int, absD_int, intD_int, intD_bl, lenD_tup, lenD_ref, lenD_pl, listD_pl, tupleD_pl, seqW_pl, enumW_pl, revW_pl, slD_pl, isNon_pl, addD_pl, listD_tup, listD_ref, tupleD_tup, tupleD_ref, max2D_int, min2D_int, truD_int, truD_bl, truD_tup, truD_non, seqW_tup, seqW_ref, enumW_tup, enumW_ref, revW_tup, revW_ref, rngW1_int, rngW2_int, slD_tup, slD_ref, slD_frl, popD_ref, appendD_ref, extendD_ref, setD_ref, bindG_nm, bindG_tup, bindGs_nil, bindGs_cons, ixD_ref, startD, List.map_cons, List.map_nil, List.length_cons, List.length_nil, List.cons_append, List.nil_append, List.getElem?_cons_zero, List.getElem?_cons_succ, List.set_cons_zero, List.set_cons_succ, Option.some.injEq, exists_eq_left', exists_eq_left, Option.bind_some, Nat.reduceAdd, Nat.reduceSub, List.replicate_succ, List.replicate_zero, Dt.bl.injEq, Dt.int.injEq, decide_eq_true_eq, decide_eq_false_iff_not, Bool.false_eq_true, if_true, if_false, Bool.not_eq_true', Bool.not_true, Bool.not_false, bne_iff_ne, ne_eq, ixD_fr0, ixD_fr1, ixD_pair0, ixD_pair1, Dt.ref.injEq, List.cons.injEq, and_true, true_and, reduceIte, exists_eq, Nat.zero_add, Dt.tup.injEq, and_self, and_assoc, exists_and_left, fr_inj, pl_inj, ite_true, ite_false, lst_same, eij, atD_frs hkl]
    have small : ∀ {c : Nat} {r : Rat}, c ≤ 690 → W E (c * B) r → Sz 4000 r := fun {c r} hc h => sz_mono (h.sz hE hE2 (Nat.lt_of_le_of_lt (Nat.mul_le_mul_right _ (Nat.mul_le_mul_right _ (by omega))) hB)) (by omega)
    have hfk : W E (c * B) f[i + j] := hf _ (List.getElem_mem hkl)
    refine ⟨ha, hq, small (by omega) hfk, small (c := 1) (by omega) (by rw [Nat.one_mul]; exact hw), _, put_same, i + j, by rw [List.length_map]; exact ixN_lt hkl, ?_⟩
    rw [put_put, frs_set]
    refine loop_mul1 rfl hE hE2 hB hc1 ha hD rest (j + 1) (c + 1) (f.set (i + j) (f[i + j] + a * q)) _ _ (by rw [List.length_set]; exact hl) (by omega) (by omega) (fun r hr' => ?_) (fun x => ?_) (fun b hb => hr b (List.mem_cons_of_mem _ hb))
    · rcases List.mem_or_eq_of_mem_set hr' with h | h
      · exact (hf r h).mono (Nat.mul_le_mul_right _ (by omega))
      · rw [h]
        have := hfk.add hw
        rwa [Nat.succ_mul]
    · rw [hT x, ev_set x _ f (i + j) hkl, ← Nat.add_assoc, pw_add x (i + j) 1]; simp only [ev, pw]; grind
theorem loop_mul {D : EndsD} {F : Addr} {p q : List Rat} {T : Rat → Rat} {L E B : Nat} {S0 : Sto} {tb : RS} (htb : tb = rsFor (wEnum (rVar 1)) (.tup [.nm 5, .nm 6]) (tb_mul sp_plus sp_times)) (hE : 0 < E) (hE2 : E < 2 ^ 1900) (hB : 700 * B * E < 2 ^ 1900) (hq : ∀ b ∈ q, Sz 4000 b)
    (hD : ∀ x3 x4 x5 x6 g, g.length = L → (∀ x, ev g x = T x) → D.nx [some (pl p), some (pl q), some (.ref F), x3, x4, x5, x6] (put S0 F (.lst (g.map fr)))) :
    ∀ (rest : List Rat) (i c : Nat) (f : List Rat) (x3 x4 x5 x6 : Option Dt), f.length = L → i + rest.length + q.length ≤ L + 1 → c + rest.length * q.length ≤ 690 → WL E (c * B) f → (∀ x, T x = ev f x + pw x i * ev rest x * ev q x) → (∀ a ∈ rest, Sz 4000 a ∧ ∀ b ∈ q, W E B (a * b)) →
      forGo (.tup [.nm 3, .nm 4]) tb D (fun _ => True) (enumD i (rest.map fr)) [some (pl p), some (pl q), some (.ref F), x3, x4, x5, x6] (put S0 F (.lst (f.map fr)))
  | [], i, c, f, x3, x4, x5, x6, hl, hk, hc, hf, hT, _ => ⟨trivial, hD x3 x4 x5 x6 f hl (fun x => by rw [hT x]; simp only [ev]; grind)⟩
  | a :: rest, i, c, f, x3, x4, x5, x6, hl, hk, hc, hf, hT, hr => by
    rw [List.length_cons] at hk hc
    rw [Nat.succ_mul] at hc
    obtain ⟨ha, hw⟩ := hr a (List.mem_cons_self ..)
    refine ⟨trivial, _, by simp only [bindG_tup, bindGs_cons, bindGs_nil, bindG_nm, Option.bind_some]; rfl, ?_⟩
    subst htb
    simp only [pl, rsFor, rLc, wipeD, rsNext, rsSeq, rsDrop, rsRet, rsRetN, rsIf, rsAsg, rsPar, rsPar3, rsAug, rsSet, rsBreak, rsCont, rVar, rC, rBin, rTru, rTest, rChain, rNeg, rNot, rAnd, rOr, rIf, rAndV, rOrV, rNotV, rNil, rCons, rTup, rLst, rNone, rSome, rSl, rCall, rCallK, rBlt, rLRev, rMeth, rMeth0, rYes, wSeq, wEnum, wRev, wRng1, wRng2, addD_int, addD_tup, addD_str, addD_ref, subD_int, mulD_int, mulD_ref, mulD_tup, fdivD_int, modD_int, powD_int, cmpD_int, isD_non, isnD_non, iaddD_int, isNon_non, isNon_int, isNon_str, isNon_tup, isNon_fr, isNon_bl, eqD_int, neD_int, absD_int, intD_int, intD_bl, lenD_tup, lenD_ref, lenD_pl, listD_pl, tupleD_pl, seqW_pl, enumW_pl, revW_pl, slD_pl, isNon_pl, addD_pl, listD_tup, listD_ref, tupleD_tup, tupleD_ref, max2D_int, min2D_int, truD_int, truD_bl, truD_tup, truD_non, seqW_tup, seqW_ref, enumW_tup, enumW_ref, revW_tup, revW_ref, rngW1_int, rngW2_int, slD_tup, slD_ref, slD_frl, popD_ref, appendD_ref, extendD_ref, setD_ref, bindG_nm, bindG_tup, bindGs_nil, bindGs_cons, ixD_ref, startD, List.map_cons, List.map_nil, List.length_cons, List.length_nil, List.cons_append, List.nil_append, List.getElem?_cons_zero, List.getElem?_cons_succ, List.set_cons_zero, List.set_cons_succ, Option.some.injEq, exists_eq_left', exists_eq_left, Option.bind_some, Nat.reduceAdd, Nat.reduceSub, List.replicate_succ, List.replicate_zero, Dt.bl.injEq, Dt.int.injEq, decide_eq_true_eq, decide_eq_false_iff_not, Bool.false_eq_true, if_true, if_false, Bool.not_eq_true', Bool.not_true, Bool.not_false, bne_iff_ne, ne_eq, ixD_fr0, ixD_fr1, ixD_pair0, ixD_pair1, Dt.ref.injEq, List.cons.injEq, and_true, true_and, reduceIte, exists_eq, Nat.zero_add, Dt.tup.injEq, and_self, and_assoc, exists_and_left, fr_inj, pl_inj, ite_true, ite_false]
    refine loop_mul1 (i := i) (c1 := c + q.length) (T := fun x => ev f x + pw x i * a * ev q x) rfl hE hE2 hB (by omega) ha (fun x5 x6 g hg hT2 hgw => ?_) q 0 c f _ _ hl (by omega) rfl hf (fun x => by rw [Nat.add_zero]) (fun b hb => ⟨hq b hb, hw b hb⟩)
    refine loop_mul rfl hE hE2 hB hq hD rest (i + 1) (c + q.length) g _ _ _ _ hg (by omega) (by omega) hgw (fun x => ?_) (fun b hb => hr b (List.mem_cons_of_mem _ hb))
    rw [hT x, hT2 x]; simp only [ev, pw]; grind
theorem sz19 {p q : List Rat} (h : MulPre p q) : (∀ b ∈ p, Sz 1900 b) ∧ (∀ b ∈ q, Sz 1900 b) := by
  obtain ⟨D1, M1, D2, M2, hp, hq, _, _, d1, d2, m1, m2, h1, h2⟩ := h
  have k1 : D1 ≤ D1 * D2 := Nat.le_mul_of_pos_right _ d2
  have k2 : D2 ≤ D1 * D2 := Nat.le_mul_of_pos_left _ d1
  have k3 : M1 ≤ M1 * M2 := Nat.le_mul_of_pos_right _ m2
  have k4 : M2 ≤ M1 * M2 := Nat.le_mul_of_pos_left _ m1
  have k5 : M1 * M2 * (D1 * D2) ≤ 700 * (M1 * M2) * (D1 * D2) := Nat.mul_le_mul_right _ (by omega)
  exact ⟨fun b hb => (hp b hb).sz d1 (Nat.lt_of_le_of_lt k1 h1) (Nat.lt_of_le_of_lt (Nat.mul_le_mul k3 k1) (Nat.lt_of_le_of_lt k5 h2)),
    fun b hb => (hq b hb).sz d2 (Nat.lt_of_le_of_lt k2 h1) (Nat.lt_of_le_of_lt (Nat.mul_le_mul k4 k2) (Nat.lt_of_le_of_lt k5 h2))⟩
theorem MulPre.sz {p q : List Rat} (h : MulPre p q) : (∀ b ∈ p, Sz 4000 b) ∧ (∀ b ∈ q, Sz 4000 b) := ⟨fun b hb => sz_mono ((sz19 h).1 b hb) (by omega), fun b hb => sz_mono ((sz19 h).2 b hb) (by omega)⟩
def sp_poly_times : SpD := fun ds S Q _ => ∃ p q : List Rat, ds = [pl p, pl q] ∧ MulPre p q ∧ Q (pl (pMul p q)) S
theorem zeros_ev (x : Rat) : ∀ n, ev (List.replicate n (0 : Rat)) x = 0
  | 0 => rfl
  | n + 1 => by rw [List.replicate_succ]; simp only [ev, zeros_ev x n]; grind
theorem zeros_flat {n : Nat} {d : Dt} : (List.replicate n [d]).flatten = List.replicate n d := by
  induction n with
  | zero => rfl
  | succ n ih => rw [List.replicate_succ, List.flatten_cons, ih, List.replicate_succ]; rfl
/-- the sum of the products, from the noughts on -/
theorem fin_mul {S : Sto} {D : EndsD} {p q : List Rat} {F : Addr} (h : MulPre p q) {tb : RS}
    (htb : tb = rsFor (wEnum (rVar 1)) (.tup [.nm 5, .nm 6]) (tb_mul sp_plus sp_times)) (hN : ∀ x3 x4 x5 x6 g, trim g = pMul p q → D.nx [some (pl p), some (pl q), some (.ref F), x3, x4, x5, x6] (put S F (.lst (g.map fr)))) {x3 x4 x5 x6 : Option Dt} :
    forGo (.tup [.nm 3, .nm 4]) tb D (fun _ => True) (enumD 0 (p.map fr)) [some (pl p), some (pl q), some (.ref F), x3, x4, x5, x6] (put S F (.lst ((List.replicate (p.length + q.length - 1) (0 : Rat)).map fr))) := by
  obtain ⟨sp, sq⟩ := h.sz
  obtain ⟨D1, M1, D2, M2, wp, wq, lp, lq, d1, d2, m1, m2, h1, h2⟩ := h
  have lpq : p.length * q.length ≤ 25 * 25 := Nat.mul_le_mul lp lq
  refine loop_mul (T := fun x => ev p x * ev q x) (L := p.length + q.length - 1) (E := D1 * D2) (B := M1 * M2) htb (Nat.mul_pos d1 d2) h1 h2 sq (fun x3 x4 x5 x6 g hg hT => ?_) p 0 0 _ _ _ _ _ (by simp) (by omega) (by omega) ?_ (fun x => ?_) (fun a ha => ⟨sp a ha, fun b hb => (wp a ha).mul (wq b hb)⟩)
  · exact hN _ _ _ _ g (trim_eq fun x => by rw [hT, ev_mulR])
  · intro r hr
    rw [List.eq_of_mem_replicate hr]
    exact .zero
  · rw [zeros_ev]; simp only [pw]; grind
theorem hw_poly_times : ∀ ds St Q R, sp_poly_times ds St Q R → t_poly_times (endsD Q R) (startD ["one", "other", "found", "i", "first", "j", "second"] ds) St := by
  rintro ds S Q R ⟨p, q, rfl, h, hQ⟩
  obtain ⟨sp, sq⟩ := h.sz
  simp only [t_poly_times, rsFor, rLc, wipeD, rsNext, rsSeq, rsDrop, rsRet, rsRetN, rsIf, rsAsg, rsPar, rsPar3, rsAug, rsSet, rsBreak, rsCont, rVar, rC, rBin, rTru, rTest, rChain, rNeg, rNot, rAnd, rOr, rIf, rAndV, rOrV, rNotV, rNil, rCons, rTup, rLst, rNone, rSome, rSl, rCall, rCallK, rBlt, rLRev, rMeth, rMeth0, rYes, wSeq, wEnum, wRev, wRng1, wRng2, addD_int, addD_tup, addD_str, addD_ref, subD_int, mulD_int, mulD_ref, mulD_tup, fdivD_int, modD_int, powD_int, cmpD_int, isD_non, isnD_non, iaddD_int, isNon_non, isNon_int, isNon_str, isNon_tup, isNon_fr, isNon_bl, eqD_int, neD_int, absD_int, intD_int, intD_bl, lenD_tup, lenD_ref, lenD_pl, listD_pl, tupleD_pl, seqW_pl, enumW_pl, revW_pl, slD_pl, isNon_pl, addD_pl, listD_tup, listD_ref, tupleD_tup, tupleD_ref, max2D_int, min2D_int, truD_int, truD_bl, truD_tup, truD_non, seqW_tup, seqW_ref, enumW_tup, enumW_ref, revW_tup, revW_ref, rngW1_int, rngW2_int, slD_tup, slD_ref, slD_frl, popD_ref, appendD_ref, extendD_ref, setD_ref, bindG_nm, bindG_tup, bindGs_nil, bindGs_cons, ixD_ref, startD, List.map_cons, List.map_nil, List.length_cons, List.length_nil, List.cons_append, List.nil_append, List.getElem?_cons_zero, List.getElem?_cons_succ, List.set_cons_zero, List.set_cons_succ, Option.some.injEq, exists_eq_left', exists_eq_left, Option.bind_some, Nat.reduceAdd, Nat.reduceSub, List.replicate_succ, List.replicate_zero, Dt.bl.injEq, Dt.int.injEq, decide_eq_true_eq, decide_eq_false_iff_not, Bool.false_eq_true, if_true, if_false, Bool.not_eq_true', Bool.not_true, Bool.not_false, bne_iff_ne, ne_eq, ixD_fr0, ixD_fr1, ixD_pair0, ixD_pair1, Dt.ref.injEq, List.cons.injEq, and_true, true_and, reduceIte, exists_eq, Nat.zero_add, Dt.tup.injEq, and_self, and_assoc, exists_and_left, fr_inj, pl_inj, ite_true, ite_false]
  refine ⟨by decide, eqD_of eqR_pl_nil ?_⟩
  simp only [rsFor, rLc, wipeD, rsNext, rsSeq, rsDrop, rsRet, rsRetN, rsIf, rsAsg, rsPar, rsPar3, rsAug, rsSet, rsBreak, rsCont, rVar, rC, rBin, rTru, rTest, rChain, rNeg, rNot, rAnd, rOr, rIf, rAndV, rOrV, rNotV, rNil, rCons, rTup, rLst, rNone, rSome, rSl, rCall, rCallK, rBlt, rLRev, rMeth, rMeth0, rYes, wSeq, wEnum, wRev, wRng1, wRng2, addD_int, addD_tup, addD_str, addD_ref, subD_int, mulD_int, mulD_ref, mulD_tup, fdivD_int, modD_int, powD_int, cmpD_int, isD_non, isnD_non, iaddD_int, isNon_non, isNon_int, isNon_str, isNon_tup, isNon_fr, isNon_bl, eqD_int, neD_int, absD_int, intD_int, intD_bl, lenD_tup, lenD_ref, lenD_pl, listD_pl, tupleD_pl, seqW_pl, enumW_pl, revW_pl, slD_pl, isNon_pl, addD_pl, listD_tup, listD_ref, tupleD_tup, tupleD_ref, max2D_int, min2D_int, truD_int, truD_bl, truD_tup, truD_non, seqW_tup, seqW_ref, enumW_tup, enumW_ref, revW_tup, revW_ref, rngW1_int, rngW2_int, slD_tup, slD_ref, slD_frl, popD_ref, appendD_ref, extendD_ref, setD_ref, bindG_nm, bindG_tup, bindGs_nil, bindGs_cons, ixD_ref, startD, List.map_cons, List.map_nil, List.length_cons, List.length_nil, List.cons_append, List.nil_append, List.getElem?_cons_zero, List.getElem?_cons_succ, List.set_cons_zero, List.set_cons_succ, Option.some.injEq, exists_eq_left', exists_eq_left, Option.bind_some, Nat.reduceAdd, Nat.reduceSub, List.replicate_succ, List.replicate_zero, Dt.bl.injEq, Dt.int.injEq, decide_eq_true_eq, decide_eq_false_iff_not, Bool.false_eq_true, if_true, if_false, Bool.not_eq_true', Bool.not_true, Bool.not_false, bne_iff_ne, ne_eq, ixD_fr0, ixD_fr1, ixD_pair0, ixD_pair1, Dt.ref.injEq, List.cons.injEq, and_true, true_and, reduceIte, exists_eq, Nat.zero_add, Dt.tup.injEq, and_self, and_assoc, exists_and_left, fr_inj, pl_inj, ite_true, ite_false]
  split
  · rename_i hp
    subst hp
    exact ⟨by decide, rt_of hQ⟩
  · rename_i hp
    refine ⟨by decide, eqD_of eqR_pl_nil ?_⟩
    simp only [rsFor, rLc, wipeD, rsNext, rsSeq, rsDrop, rsRet, rsRetN, rsIf, rsAsg, rsPar, rsPar3, rsAug, rsSet, rsBreak, rsCont, rVar, rC, rBin, rTru, rTest, rChain, rNeg, rNot, rAnd, rOr, rIf, rAndV, rOrV, rNotV, rNil, rCons, rTup, rLst, rNone, rSome, rSl, rCall, rCallK, rBlt, rLRev, rMeth, rMeth0, rYes, wSeq, wEnum, wRev, wRng1, wRng2, addD_int, addD_tup, addD_str, addD_ref, subD_int, mulD_int, mulD_ref, mulD_tup, fdivD_int, modD_int, powD_int, cmpD_int, isD_non, isnD_non, iaddD_int, isNon_non, isNon_int, isNon_str, isNon_tup, isNon_fr, isNon_bl, eqD_int, neD_int, absD_int, intD_int, intD_bl, lenD_tup, lenD_ref, lenD_pl, listD_pl, tupleD_pl, seqW_pl, enumW_pl, revW_pl, slD_pl, isNon_pl, addD_pl, listD_tup, listD_ref, tupleD_tup, tupleD_ref, max2D_int, min2D_int, truD_int, truD_bl, truD_tup, truD_non, seqW_tup, seqW_ref, enumW_tup, enumW_ref, revW_tup, revW_ref, rngW1_int, rngW2_int, slD_tup, slD_ref, slD_frl, popD_ref, appendD_ref, extendD_ref, setD_ref, bindG_nm, bindG_tup, bindGs_nil, bindGs_cons, ixD_ref, startD, List.map_cons, List.map_nil, List.length_cons, List.length_nil, List.cons_append, List.nil_append, List.getElem?_cons_zero, List.getElem?_cons_succ, List.set_cons_zero, List.set_cons_succ, Option.some.injEq, exists_eq_left', exists_eq_left, Option.bind_some, Nat.reduceAdd, Nat.reduceSub, List.replicate_succ, List.replicate_zero, Dt.bl.injEq, Dt.int.injEq, decide_eq_true_eq, decide_eq_false_iff_not, Bool.false_eq_true, if_true, if_false, Bool.not_eq_true', Bool.not_true, Bool.not_false, bne_iff_ne, ne_eq, ixD_fr0, ixD_fr1, ixD_pair0, ixD_pair1, Dt.ref.injEq, List.cons.injEq, and_true, true_and, reduceIte, exists_eq, Nat.zero_add, Dt.tup.injEq, and_self, and_assoc, exists_and_left, fr_inj, pl_inj, ite_true, ite_false]
    split
    · rename_i hq
      subst hq
      refine ⟨by decide, rt_of ?_⟩
      have e : pMul p [] = [] := by
        have : pMul p [] = trim [] := trim_eq fun x => by rw [ev_mulR]; simp only [ev]; grind
        rw [this]; rfl
      rw [e] at hQ
      exact hQ
    · rename_i hq
      have hl : 0 < p.length := List.length_pos_iff.mpr hp
      have hl2 : 0 < q.length := List.length_pos_iff.mpr hq
      have k := h
      obtain ⟨_, _, _, _, _, _, lp, lq, _⟩ := k
      refine ⟨by decide, fun a ha => ⟨_, put_same, by omega, by omega, ?_, fun F hF => ?_⟩⟩
      · have : sizeLine = 16777216 := by decide
        simp only [List.length_cons, List.length_nil]; omega
      · have e : ((p.length : Int) + (q.length : Int) - 1).toNat = p.length + q.length - 1 := by omega
        have e2 : (List.replicate (p.length + q.length - 1) [Dt.tup [Dt.int 0, Dt.int 1]]).flatten = (List.replicate (p.length + q.length - 1) (0 : Rat)).map fr := by
          rw [zeros_flat, List.map_replicate, zero_fr]
        rw [e, e2]
        refine fin_mul h rfl (fun x3 x4 x5 x6 g hg => ?_)
        simp only [sp_trimmed, rsFor, rLc, wipeD, rsNext, rsSeq, rsDrop, rsRet, rsRetN, rsIf, rsAsg, rsPar, rsPar3, rsAug, rsSet, rsBreak, rsCont, rVar, rC, rBin, rTru, rTest, rChain, rNeg, rNot, rAnd, rOr, rIf, rAndV, rOrV, rNotV, rNil, rCons, rTup, rLst, rNone, rSome, rSl, rCall, rCallK, rBlt, rLRev, rMeth, rMeth0, rYes, wSeq, wEnum, wRev, wRng1, wRng2, addD_int, addD_tup, addD_str, addD_ref, subD_int, mulD_int, mulD_ref, mulD_tup, fdivD_int, modD_int, powD_int, cmpD_int, isD_non, isnD_non, iaddD_int, isNon_non, isNon_int, isNon_str, isNon_tup, isNon_fr, isNon_bl, eqD_int, neD_int, absD_int, intD_int, intD_bl, lenD_tup, lenD_ref, lenD_pl, listD_pl, tupleD_pl, seqW_pl, enumW_pl, revW_pl, slD_pl, isNon_pl, addD_pl, listD_tup, listD_ref, tupleD_tup, tupleD_ref, max2D_int, min2D_int, truD_int, truD_bl, truD_tup, truD_non, seqW_tup, seqW_ref, enumW_tup, enumW_ref, revW_tup, revW_ref, rngW1_int, rngW2_int, slD_tup, slD_ref, slD_frl, popD_ref, appendD_ref, extendD_ref, setD_ref, bindG_nm, bindG_tup, bindGs_nil, bindGs_cons, ixD_ref, startD, List.map_cons, List.map_nil, List.length_cons, List.length_nil, List.cons_append, List.nil_append, List.getElem?_cons_zero, List.getElem?_cons_succ, List.set_cons_zero, List.set_cons_succ, Option.some.injEq, exists_eq_left', exists_eq_left, Option.bind_some, Nat.reduceAdd, Nat.reduceSub, List.replicate_succ, List.replicate_zero, Dt.bl.injEq, Dt.int.injEq, decide_eq_true_eq, decide_eq_false_iff_not, Bool.false_eq_true, if_true, if_false, Bool.not_eq_true', Bool.not_true, Bool.not_false, bne_iff_ne, ne_eq, ixD_fr0, ixD_fr1, ixD_pair0, ixD_pair1, Dt.ref.injEq, List.cons.injEq, and_true, true_and, reduceIte, exists_eq, Nat.zero_add, Dt.tup.injEq, and_self, and_assoc, exists_and_left, fr_inj, pl_inj, ite_true, ite_false]
        refine ⟨g, lst_same, ?_⟩
        rw [hg]
        exact rt_sub hQ ((Sub.put ha).trans (Sub.put hF))
theorem len_poly_times : ∀ ds S Q R, sp_poly_times ds S Q R → ds.length = 2 := by rintro ds S Q R ⟨p, q, rfl, _⟩; rfl
/-- one number, all items -/
def ByPre (f : Rat) (p : List Rat) : Prop := Sz 1900 f ∧ (∀ a ∈ p, Sz 1900 a) ∧ p.length ≤ 1000
def sp_poly_by : SpD := fun ds S Q _ => ∃ (f : Rat) (p : List Rat), ds = [fr f, pl p] ∧ (ByPre f p ∧ trim p = p) ∧ Q (pl (pScale f p)) S
theorem scale_zero {p : List Rat} : pScale 0 p = [] := trim_zero fun a ha => by
  obtain ⟨b, _, rfl⟩ := List.mem_map.mp ha
  grind
theorem scale_ne {f : Rat} {p : List Rat} (h : f ≠ 0) (hp : trim p = p) : pScale f p = p.map (f * ·) := by
  refine trim_last ?_
  have := last_trim hp
  rw [List.getLast?_map]
  intro z
  obtain ⟨b, hb, e⟩ := Option.map_eq_some_iff.mp z
  rcases Rat.mul_eq_zero.mp e with e | e
  · exact h e
  · rw [e] at hb; exact this hb
def scD (f : Rat) : Dt → Dt
  | .tup [.int a, .int b] => fr (f * Rat.divInt a b)
  | d => d
theorem frs_scale {f : Rat} {p : List Rat} : (p.map fr).map (scD f) = (p.map (f * ·)).map fr := by
  simp only [List.map_map]
  refine List.map_congr_left fun q _ => ?_
  show fr (f * Rat.divInt q.num (q.den : Int)) = fr (f * q)
  rw [Rat.num_divInt_den]
theorem hw_poly_by : ∀ ds St Q R, sp_poly_by ds St Q R → t_poly_by (endsD Q R) (startD ["f", "poly", "item"] ds) St := by
  rintro ds S Q R ⟨f, p, rfl, ⟨⟨hf, hp, hl⟩, ht⟩, hQ⟩
  simp only [t_poly_by, rsFor, rLc, wipeD, rsNext, rsSeq, rsDrop, rsRet, rsRetN, rsIf, rsAsg, rsPar, rsPar3, rsAug, rsSet, rsBreak, rsCont, rVar, rC, rBin, rTru, rTest, rChain, rNeg, rNot, rAnd, rOr, rIf, rAndV, rOrV, rNotV, rNil, rCons, rTup, rLst, rNone, rSome, rSl, rCall, rCallK, rBlt, rLRev, rMeth, rMeth0, rYes, wSeq, wEnum, wRev, wRng1, wRng2, addD_int, addD_tup, addD_str, addD_ref, subD_int, mulD_int, mulD_ref, mulD_tup, fdivD_int, modD_int, powD_int, cmpD_int, isD_non, isnD_non, iaddD_int, isNon_non, isNon_int, isNon_str, isNon_tup, isNon_fr, isNon_bl, eqD_int, neD_int, absD_int, intD_int, intD_bl, lenD_tup, lenD_ref, lenD_pl, listD_pl, tupleD_pl, seqW_pl, enumW_pl, revW_pl, slD_pl, isNon_pl, addD_pl, listD_tup, listD_ref, tupleD_tup, tupleD_ref, max2D_int, min2D_int, truD_int, truD_bl, truD_tup, truD_non, seqW_tup, seqW_ref, enumW_tup, enumW_ref, revW_tup, revW_ref, rngW1_int, rngW2_int, slD_tup, slD_ref, slD_frl, popD_ref, appendD_ref, extendD_ref, setD_ref, bindG_nm, bindG_tup, bindGs_nil, bindGs_cons, ixD_ref, startD, List.map_cons, List.map_nil, List.length_cons, List.length_nil, List.cons_append, List.nil_append, List.getElem?_cons_zero, List.getElem?_cons_succ, List.set_cons_zero, List.set_cons_succ, Option.some.injEq, exists_eq_left', exists_eq_left, Option.bind_some, Nat.reduceAdd, Nat.reduceSub, List.replicate_succ, List.replicate_zero, Dt.bl.injEq, Dt.int.injEq, decide_eq_true_eq, decide_eq_false_iff_not, Bool.false_eq_true, if_true, if_false, Bool.not_eq_true', Bool.not_true, Bool.not_false, bne_iff_ne, ne_eq, ixD_fr0, ixD_fr1, ixD_pair0, ixD_pair1, Dt.ref.injEq, List.cons.injEq, and_true, true_and, reduceIte, exists_eq, Nat.zero_add, Dt.tup.injEq, and_self, and_assoc, exists_and_left, fr_inj, pl_inj, ite_true, ite_false]
  split
  · rename_i h0
    have : f = 0 := Rat.num_eq_zero.mp h0
    subst this
    rw [scale_zero] at hQ
    exact ⟨by decide, rt_of hQ⟩
  · rename_i h0
    have hne : f ≠ 0 := fun z => h0 (Rat.num_eq_zero.mpr z)
    rw [scale_ne hne ht] at hQ
    intro a ha
    refine lcGo_pure (scD f) (p.map fr) [] _ put_same (fun _ => trivial) ?_ (fun x hx => ?_) ?_
    · have : sizeLine = 16777216 := by decide
      simp only [List.length_nil, List.length_map]; omega
    · obtain ⟨q, hq, rfl⟩ := List.mem_map.mp hx
      refine ⟨_, bindG_nm, fun S' Q' hq' => ?_⟩
      simp only [rsFor, rLc, wipeD, rsNext, rsSeq, rsDrop, rsRet, rsRetN, rsIf, rsAsg, rsPar, rsPar3, rsAug, rsSet, rsBreak, rsCont, rVar, rC, rBin, rTru, rTest, rChain, rNeg, rNot, rAnd, rOr, rIf, rAndV, rOrV, rNotV, rNil, rCons, rTup, rLst, rNone, rSome, rSl, rCall, rCallK, rBlt, rLRev, rMeth, rMeth0, rYes, wSeq, wEnum, wRev, wRng1, wRng2, addD_int, addD_tup, addD_str, addD_ref, subD_int, mulD_int, mulD_ref, mulD_tup, fdivD_int, modD_int, powD_int, cmpD_int, isD_non, isnD_non, iaddD_int, isNon_non, isNon_int, isNon_str, isNon_tup, isNon_fr, isNon_bl, eqD_int, neD_int, absD_int, intD_int, intD_bl, lenD_tup, lenD_ref, lenD_pl, listD_pl, tupleD_pl, seqW_pl, enumW_pl, revW_pl, slD_pl, isNon_pl, addD_pl, listD_tup, listD_ref, tupleD_tup, tupleD_ref, max2D_int, min2D_int, truD_int, truD_bl, truD_tup, truD_non, seqW_tup, seqW_ref, enumW_tup, enumW_ref, revW_tup, revW_ref, rngW1_int, rngW2_int, slD_tup, slD_ref, slD_frl, popD_ref, appendD_ref, extendD_ref, setD_ref, bindG_nm, bindG_tup, bindGs_nil, bindGs_cons, ixD_ref, startD, List.map_cons, List.map_nil, List.length_cons, List.length_nil, List.cons_append, List.nil_append, List.getElem?_cons_zero, List.getElem?_cons_succ, List.set_cons_zero, List.set_cons_succ, Option.some.injEq, exists_eq_left', exists_eq_left, Option.bind_some, Nat.reduceAdd, Nat.reduceSub, List.replicate_succ, List.replicate_zero, Dt.bl.injEq, Dt.int.injEq, decide_eq_true_eq, decide_eq_false_iff_not, Bool.false_eq_true, if_true, if_false, Bool.not_eq_true', Bool.not_true, Bool.not_false, bne_iff_ne, ne_eq, ixD_fr0, ixD_fr1, ixD_pair0, ixD_pair1, Dt.ref.injEq, List.cons.injEq, and_true, true_and, reduceIte, exists_eq, Nat.zero_add, Dt.tup.injEq, and_self, and_assoc, exists_and_left, fr_inj, pl_inj, ite_true, ite_false, sp_times]
      refine ⟨sz_mono hf (by omega), sz_mono (hp q hq) (by omega), ?_⟩
      have : fr (f * Rat.divInt q.num (q.den : Int)) = fr (f * q) := by rw [Rat.num_divInt_den]
      rw [← this]
      exact hq'
    · rw [put_put, frs_scale, List.nil_append]
      simp only [rsFor, rLc, wipeD, rsNext, rsSeq, rsDrop, rsRet, rsRetN, rsIf, rsAsg, rsPar, rsPar3, rsAug, rsSet, rsBreak, rsCont, rVar, rC, rBin, rTru, rTest, rChain, rNeg, rNot, rAnd, rOr, rIf, rAndV, rOrV, rNotV, rNil, rCons, rTup, rLst, rNone, rSome, rSl, rCall, rCallK, rBlt, rLRev, rMeth, rMeth0, rYes, wSeq, wEnum, wRev, wRng1, wRng2, addD_int, addD_tup, addD_str, addD_ref, subD_int, mulD_int, mulD_ref, mulD_tup, fdivD_int, modD_int, powD_int, cmpD_int, isD_non, isnD_non, iaddD_int, isNon_non, isNon_int, isNon_str, isNon_tup, isNon_fr, isNon_bl, eqD_int, neD_int, absD_int, intD_int, intD_bl, lenD_tup, lenD_ref, lenD_pl, listD_pl, tupleD_pl, seqW_pl, enumW_pl, revW_pl, slD_pl, isNon_pl, addD_pl, listD_tup, listD_ref, tupleD_tup, tupleD_ref, max2D_int, min2D_int, truD_int, truD_bl, truD_tup, truD_non, seqW_tup, seqW_ref, enumW_tup, enumW_ref, revW_tup, revW_ref, rngW1_int, rngW2_int, slD_tup, slD_ref, slD_frl, popD_ref, appendD_ref, extendD_ref, setD_ref, bindG_nm, bindG_tup, bindGs_nil, bindGs_cons, ixD_ref, startD, List.map_cons, List.map_nil, List.length_cons, List.length_nil, List.cons_append, List.nil_append, List.getElem?_cons_zero, List.getElem?_cons_succ, List.set_cons_zero, List.set_cons_succ, Option.some.injEq, exists_eq_left', exists_eq_left, Option.bind_some, Nat.reduceAdd, Nat.reduceSub, List.replicate_succ, List.replicate_zero, Dt.bl.injEq, Dt.int.injEq, decide_eq_true_eq, decide_eq_false_iff_not, Bool.false_eq_true, if_true, if_false, Bool.not_eq_true', Bool.not_true, Bool.not_false, bne_iff_ne, ne_eq, ixD_fr0, ixD_fr1, ixD_pair0, ixD_pair1, Dt.ref.injEq, List.cons.injEq, and_true, true_and, reduceIte, exists_eq, Nat.zero_add, Dt.tup.injEq, and_self, and_assoc, exists_and_left, fr_inj, pl_inj, ite_true, ite_false, lst_same]
      exact rt_sub hQ (Sub.put ha)
theorem len_poly_by : ∀ ds S Q R, sp_poly_by ds S Q R → ds.length = 2 := by rintro ds S Q R ⟨p, q, rfl, _⟩; rfl
/-- how great a value may be -/
def AtPre (p : List Rat) (t : Rat) : Prop := ∃ D M E N : Nat, WL D M p ∧ W E N t ∧ p.length ≤ 25 ∧ 0 < D ∧ 0 < E ∧ 1 ≤ N ∧ D * E ^ 25 < 2 ^ 1900 ∧ 25 * (M * N ^ 25) * (D * E ^ 25) < 2 ^ 1900 ∧ N * E < 2 ^ 1900 ∧ M * D < 2 ^ 1900
def sp_value_at : SpD := fun ds S Q _ => ∃ (p : List Rat) (t : Rat), ds = [pl p, fr t] ∧ AtPre p t ∧ Q (fr (ev p t)) S
theorem pow_mono {E a b : Nat} (hE : 0 < E) (h : a ≤ b) : E ^ a ≤ E ^ b := Nat.pow_le_pow_right hE h
theorem ev_sz {D M E N : Nat} {p : List Rat} {t : Rat} (hp : WL D M p) (ht : W E N t) (hl : p.length ≤ 25) (hD : 0 < D) (hE : 0 < E) (hN : 1 ≤ N) (h1 : D * E ^ 25 < 2 ^ 1900) (h2 : 25 * (M * N ^ 25) * (D * E ^ 25) < 2 ^ 1900) : Sz 1900 (ev p t) := by
  have w := W.ev ht hN hp
  have k1 : D * E ^ p.length ≤ D * E ^ 25 := Nat.mul_le_mul_left _ (pow_mono hE hl)
  have k2 : p.length * (M * N ^ p.length) ≤ 25 * (M * N ^ 25) := Nat.mul_le_mul hl (Nat.mul_le_mul_left _ (pow_mono (by omega) hl))
  exact w.sz (Nat.mul_pos hD (Nat.pow_pos hE)) (Nat.lt_of_le_of_lt k1 h1) (Nat.lt_of_le_of_lt (Nat.mul_le_mul k2 k1) h2)
/-- found = plus(times(found, t), item) down the items -/
def tb_at (spp spt : SpD) : RS := rsAsg (rCall spp (rCons (rCall spt (rCons (rVar 2) (rCons (rVar 1) rNil))) (rCons (rVar 3) rNil))) (.nm 2)
theorem loop_at {D : EndsD} {G : Sto → Prop} {x0 : Option Dt} {t : Rat} {S : Sto} {tb : RS} {p : List Rat} (htb : tb = tb_at sp_plus sp_times) (hG : G S) (hpre : AtPre p t) (hD : ∀ x3, D.nx [x0, some (fr t), some (fr (ev p t)), x3] S) :
    ∀ (r q : List Rat) (x3 : Option Dt), p = r.reverse ++ q → forGo (.nm 3) tb D G (r.map fr) [x0, some (fr t), some (fr (ev q t)), x3] S
  | [], q, x3, e => ⟨hG, by
    have : p = q := by simpa using e
    rw [← this]
    exact hD x3⟩
  | a :: r, q, x3, e => by
    refine ⟨hG, _, bindG_nm, ?_⟩
    subst htb
    have e' : p = r.reverse ++ (a :: q) := by rw [e]; simp
    have k := hpre
    obtain ⟨D, M, E, N, wp, wt, hl, d, e0, n, h1, h2, h3, h4⟩ := k
    have hlen : q.length + 1 ≤ 25 := by
      rw [e', List.length_append, List.length_cons] at hl; omega
    have sub : ∀ b ∈ a :: q, b ∈ p := fun b hb => by rw [e']; exact List.mem_append_right _ hb
    have wq : WL D M q := fun b hb => wp b (sub b (List.mem_cons_of_mem _ hb))
    have E1 : E ≤ D * E ^ 25 := Nat.le_trans (by have := pow_mono e0 (show 1 ≤ 25 by omega); rwa [Nat.pow_one] at this) (Nat.le_mul_of_pos_left _ d)
    have D1 : D ≤ D * E ^ 25 := Nat.le_mul_of_pos_right _ (Nat.pow_pos e0)
    have st : Sz 4000 t := sz_mono (wt.sz e0 (Nat.lt_of_le_of_lt E1 h1) h3) (by omega)
    have sa : Sz 4000 a := sz_mono ((wp a (sub a (List.mem_cons_self ..))).sz d (Nat.lt_of_le_of_lt D1 h1) h4) (by omega)
    have sq : Sz 1900 (ev q t) := ev_sz wq wt (by omega) d e0 n h1 h2
    have sq2 : Sz 4000 (ev q t * t) := by
      have w := (W.ev wt n wq).mul wt
      have k1 : D * E ^ q.length * E = D * E ^ (q.length + 1) := by rw [Nat.pow_succ, Nat.mul_assoc]
      have k2 : q.length * (M * N ^ q.length) * N = q.length * (M * N ^ (q.length + 1)) := by rw [Nat.pow_succ, Nat.mul_assoc, Nat.mul_assoc]
      rw [k1, k2] at w
      have k3 : D * E ^ (q.length + 1) ≤ D * E ^ 25 := Nat.mul_le_mul_left _ (pow_mono e0 hlen)
      have k4 : q.length * (M * N ^ (q.length + 1)) ≤ 25 * (M * N ^ 25) := Nat.mul_le_mul (by omega) (Nat.mul_le_mul_left _ (pow_mono (by omega) hlen))
      exact sz_mono (w.sz (Nat.mul_pos d (Nat.pow_pos e0)) (Nat.lt_of_le_of_lt k3 h1) (Nat.lt_of_le_of_lt (Nat.mul_le_mul k4 k3) h2)) (by omega)
    simp only [tb_at, sp_plus, sp_times, rsFor, rLc, wipeD, rsNext, rsSeq, rsDrop, rsRet, rsRetN, rsIf, rsAsg, rsPar, rsPar3, rsAug, rsSet, rsBreak, rsCont, rVar, rC, rBin, rTru, rTest, rChain, rNeg, rNot, rAnd, rOr, rIf, rAndV, rOrV, rNotV, rNil, rCons, rTup, rLst, rNone, rSome, rSl, rCall, rCallK, rBlt, rLRev, rMeth, rMeth0, rYes, wSeq, wEnum, wRev, wRng1, wRng2, addD_int, addD_tup, addD_str, addD_ref, subD_int, mulD_int, mulD_ref, mulD_tup, fdivD_int, modD_int, powD_int, cmpD_int, isD_non, isnD_non, iaddD_int, isNon_non, isNon_int, isNon_str, isNon_tup, isNon_fr, isNon_bl, eqD_int, neD_int, absD_int, intD_int, intD_bl, lenD_tup, lenD_ref, lenD_pl, listD_pl, tupleD_pl, seqW_pl, enumW_pl, revW_pl, slD_pl, isNon_pl, addD_pl, listD_tup, listD_ref, tupleD_tup, tupleD_ref, max2D_int, min2D_int, truD_int, truD_bl, truD_tup, truD_non, seqW_tup, seqW_ref, enumW_tup, enumW_ref, revW_tup, revW_ref, rngW1_int, rngW2_int, slD_tup, slD_ref, slD_frl, popD_ref, appendD_ref, extendD_ref, setD_ref, bindG_nm, bindG_tup, bindGs_nil, bindGs_cons, ixD_ref, startD, List.map_cons, List.map_nil, List.length_cons, List.length_nil, List.cons_append, List.nil_append, List.getElem?_cons_zero, List.getElem?_cons_succ, List.set_cons_zero, List.set_cons_succ, Option.some.injEq, exists_eq_left', exists_eq_left, Option.bind_some, Nat.reduceAdd, Nat.reduceSub, List.replicate_succ, List.replicate_zero, Dt.bl.injEq, Dt.int.injEq, decide_eq_true_eq, decide_eq_false_iff_not, Bool.false_eq_true, if_true, if_false, Bool.not_eq_true', Bool.not_true, Bool.not_false, bne_iff_ne, ne_eq, ixD_fr0, ixD_fr1, ixD_pair0, ixD_pair1, Dt.ref.injEq, List.cons.injEq, and_true, true_and, reduceIte, exists_eq, Nat.zero_add, Dt.tup.injEq, and_self, and_assoc, exists_and_left, fr_inj, pl_inj, ite_true, ite_false]
    refine ⟨sz_mono sq (by omega), st, sq2, sa, ?_⟩
    have ee : ev q t * t + a = ev (a :: q) t := by simp only [ev]; grind
    rw [ee]
    exact loop_at rfl hG hpre hD r (a :: q) _ e'
theorem hw_value_at : ∀ ds St Q R, sp_value_at ds St Q R → t_value_at (endsD Q R) (startD ["poly", "t", "found", "item"] ds) St := by
  rintro ds S Q R ⟨p, t, rfl, h, hQ⟩
  simp only [t_value_at, rsFor, rLc, wipeD, rsNext, rsSeq, rsDrop, rsRet, rsRetN, rsIf, rsAsg, rsPar, rsPar3, rsAug, rsSet, rsBreak, rsCont, rVar, rC, rBin, rTru, rTest, rChain, rNeg, rNot, rAnd, rOr, rIf, rAndV, rOrV, rNotV, rNil, rCons, rTup, rLst, rNone, rSome, rSl, rCall, rCallK, rBlt, rLRev, rMeth, rMeth0, rYes, wSeq, wEnum, wRev, wRng1, wRng2, addD_int, addD_tup, addD_str, addD_ref, subD_int, mulD_int, mulD_ref, mulD_tup, fdivD_int, modD_int, powD_int, cmpD_int, isD_non, isnD_non, iaddD_int, isNon_non, isNon_int, isNon_str, isNon_tup, isNon_fr, isNon_bl, eqD_int, neD_int, absD_int, intD_int, intD_bl, lenD_tup, lenD_ref, lenD_pl, listD_pl, tupleD_pl, seqW_pl, enumW_pl, revW_pl, slD_pl, isNon_pl, addD_pl, listD_tup, listD_ref, tupleD_tup, tupleD_ref, max2D_int, min2D_int, truD_int, truD_bl, truD_tup, truD_non, seqW_tup, seqW_ref, enumW_tup, enumW_ref, revW_tup, revW_ref, rngW1_int, rngW2_int, slD_tup, slD_ref, slD_frl, popD_ref, appendD_ref, extendD_ref, setD_ref, bindG_nm, bindG_tup, bindGs_nil, bindGs_cons, ixD_ref, startD, List.map_cons, List.map_nil, List.length_cons, List.length_nil, List.cons_append, List.nil_append, List.getElem?_cons_zero, List.getElem?_cons_succ, List.set_cons_zero, List.set_cons_succ, Option.some.injEq, exists_eq_left', exists_eq_left, Option.bind_some, Nat.reduceAdd, Nat.reduceSub, List.replicate_succ, List.replicate_zero, Dt.bl.injEq, Dt.int.injEq, decide_eq_true_eq, decide_eq_false_iff_not, Bool.false_eq_true, if_true, if_false, Bool.not_eq_true', Bool.not_true, Bool.not_false, bne_iff_ne, ne_eq, ixD_fr0, ixD_fr1, ixD_pair0, ixD_pair1, Dt.ref.injEq, List.cons.injEq, and_true, true_and, reduceIte, exists_eq, Nat.zero_add, Dt.tup.injEq, and_self, and_assoc, exists_and_left, fr_inj, pl_inj, ite_true, ite_false]
  rw [← List.map_reverse, zero_fr]
  refine loop_at (p := p) rfl trivial h (fun x3 => ?_) p.reverse [] _ (by simp)
  simp only [rsFor, rLc, wipeD, rsNext, rsSeq, rsDrop, rsRet, rsRetN, rsIf, rsAsg, rsPar, rsPar3, rsAug, rsSet, rsBreak, rsCont, rVar, rC, rBin, rTru, rTest, rChain, rNeg, rNot, rAnd, rOr, rIf, rAndV, rOrV, rNotV, rNil, rCons, rTup, rLst, rNone, rSome, rSl, rCall, rCallK, rBlt, rLRev, rMeth, rMeth0, rYes, wSeq, wEnum, wRev, wRng1, wRng2, addD_int, addD_tup, addD_str, addD_ref, subD_int, mulD_int, mulD_ref, mulD_tup, fdivD_int, modD_int, powD_int, cmpD_int, isD_non, isnD_non, iaddD_int, isNon_non, isNon_int, isNon_str, isNon_tup, isNon_fr, isNon_bl, eqD_int, neD_int, absD_int, intD_int, intD_bl, lenD_tup, lenD_ref, lenD_pl, listD_pl, tupleD_pl, seqW_pl, enumW_pl, revW_pl, slD_pl, isNon_pl, addD_pl, listD_tup, listD_ref, tupleD_tup, tupleD_ref, max2D_int, min2D_int, truD_int, truD_bl, truD_tup, truD_non, seqW_tup, seqW_ref, enumW_tup, enumW_ref, revW_tup, revW_ref, rngW1_int, rngW2_int, slD_tup, slD_ref, slD_frl, popD_ref, appendD_ref, extendD_ref, setD_ref, bindG_nm, bindG_tup, bindGs_nil, bindGs_cons, ixD_ref, startD, List.map_cons, List.map_nil, List.length_cons, List.length_nil, List.cons_append, List.nil_append, List.getElem?_cons_zero, List.getElem?_cons_succ, List.set_cons_zero, List.set_cons_succ, Option.some.injEq, exists_eq_left', exists_eq_left, Option.bind_some, Nat.reduceAdd, Nat.reduceSub, List.replicate_succ, List.replicate_zero, Dt.bl.injEq, Dt.int.injEq, decide_eq_true_eq, decide_eq_false_iff_not, Bool.false_eq_true, if_true, if_false, Bool.not_eq_true', Bool.not_true, Bool.not_false, bne_iff_ne, ne_eq, ixD_fr0, ixD_fr1, ixD_pair0, ixD_pair1, Dt.ref.injEq, List.cons.injEq, and_true, true_and, reduceIte, exists_eq, Nat.zero_add, Dt.tup.injEq, and_self, and_assoc, exists_and_left, fr_inj, pl_inj, ite_true, ite_false]
  exact rt_of hQ
theorem len_value_at : ∀ ds S Q R, sp_value_at ds S Q R → ds.length = 2 := by rintro ds S Q R ⟨p, q, rfl, _⟩; rfl
end Ev

namespace Ev
open PySem PySem.Spec PyProof.Rows L2
def sp_slope_of : SpD := fun ds S Q _ => ∃ p : List Rat, ds = [pl p] ∧ ((∀ a ∈ p, Sz 1900 a) ∧ p.length ≤ 1000) ∧ Q (pl (slope p)) S
def AddPre (p q : List Rat) : Prop := ((∀ a ∈ p, Sz 4000 a) ∧ (∀ a ∈ q, Sz 4000 a)) ∧ FitP (pAdd p q)
def sp_poly_sum : SpD := fun ds S Q _ => ∃ p q : List Rat, ds = [pl p, pl q] ∧ AddPre p q ∧ Q (pl (pAdd p q)) S
def sp_poly_product : SpD := fun ds S Q _ => ∃ p q : List Rat, ds = [pl p, pl q] ∧ (MulPre p q ∧ FitP (pMul p q)) ∧ Q (pl (pMul p q)) S
def sp_poly_scaled : SpD := fun ds S Q _ => ∃ (f : Rat) (p : List Rat), ds = [fr f, pl p] ∧ ((ByPre f p ∧ trim p = p) ∧ FitP (pScale f p)) ∧ Q (pl (pScale f p)) S
def sp_poly_at : SpD := fun ds S Q _ => ∃ (p : List Rat) (t : Rat), ds = [pl p, fr t] ∧ AtPre p t ∧ Q (fr (ev p t)) S
def sp_poly_slope : SpD := fun ds S Q _ => ∃ p : List Rat, ds = [pl p] ∧ (((∀ a ∈ p, Sz 1900 a) ∧ p.length ≤ 1000) ∧ FitP (slope p)) ∧ Q (pl (slope p)) S
def t_poly_sum : RS := rsRet (rCall sp_fit_poly (rCons (rCall sp_poly_plus (rCons (rVar 0) (rCons (rVar 1) rNil))) rNil))
def t_poly_product : RS := rsRet (rCall sp_fit_poly (rCons (rCall sp_poly_times (rCons (rVar 0) (rCons (rVar 1) rNil))) rNil))
def t_poly_scaled : RS := rsRet (rCall sp_fit_poly (rCons (rCall sp_poly_by (rCons (rVar 0) (rCons (rVar 1) rNil))) rNil))
def t_poly_at : RS := rsRet (rCall sp_fit_fraction (rCons (rCall sp_value_at (rCons (rVar 0) (rCons (rVar 1) rNil))) rNil))
def t_poly_slope : RS := rsRet (rCall sp_fit_poly (rCons (rCall sp_slope_of (rCons (rVar 0) rNil)) rNil))
theorem fr_nat {k : Nat} : Dt.tup [.int (k : Int), .int 1] = fr (k : Rat) := rfl
theorem lc_slope {D : Sto → Prop} {P : Addr} {x0 : Option Dt} {te : RE} {tt : RT} (htt : tt = rTest (rBin (cmpD fun i j => decide (j < i)) (rVar 1) (rC (Dt.int 0)))) (hte : te = rCall sp_times (rCons (rTup (rCons (rVar 1) (rCons (rC (Dt.int 1)) rNil))) (rCons (rVar 2) rNil))) (S0 : Sto) :
    ∀ (rest : List Rat) (k : Nat) (acc : List Rat), 0 < k → (∀ q ∈ rest, Sz 1900 q) → acc.length + rest.length ≤ 1000 → k + rest.length ≤ 1001 → D (put S0 P (.lst ((acc ++ slopeK k rest).map fr))) →
      lcGo (.tup [.nm 1, .nm 2]) tt te (fun _ => True) P [x0, none, none] D (enumD k (rest.map fr)) (put S0 P (.lst (acc.map fr)))
  | [], k, acc, _, _, _, _, hD => ⟨trivial, by simp only [slopeK, List.append_nil] at hD; exact hD⟩
  | q :: rest, k, acc, hk, hr, hl, hl2, hD => by
    rw [List.length_cons] at hl hl2
    refine ⟨trivial, _, by simp only [bindG_tup, bindGs_cons, bindGs_nil, bindG_nm, Option.bind_some]; rfl, ?_⟩
    subst htt hte
    have hk' : (0 : Int) < (k : Int) := by omega
    simp only [rsFor, rLc, wipeD, rsNext, rsSeq, rsDrop, rsRet, rsRetN, rsIf, rsAsg, rsPar, rsPar3, rsAug, rsSet, rsBreak, rsCont, rVar, rC, rBin, rTru, rTest, rChain, rNeg, rNot, rAnd, rOr, rIf, rAndV, rOrV, rNotV, rNil, rCons, rTup, rLst, rNone, rSome, rSl, rCall, rCallK, rBlt, rLRev, rMeth, rMeth0, rYes, wSeq, wEnum, wRev, wRng1, wRng2, addD_int, addD_tup, addD_str, addD_ref, subD_int, mulD_int, mulD_ref, mulD_tup, fdivD_int, modD_int, powD_int, cmpD_int, isD_non, isnD_non, iaddD_int, isNon_non, isNon_int, isNon_str, isNon_tup, isNon_fr, isNon_bl, eqD_int, neD_int, absD_int, intD_int, intD_bl, lenD_tup, lenD_ref, lenD_pl, listD_pl, tupleD_pl, seqW_pl, enumW_pl, revW_pl, slD_pl, isNon_pl, addD_pl, listD_tup, listD_ref, tupleD_tup, tupleD_ref, max2D_int, min2D_int, truD_int, truD_bl, truD_tup, truD_non, seqW_tup, seqW_ref, enumW_tup, enumW_ref, revW_tup, revW_ref, rngW1_int, rngW2_int, slD_tup, slD_ref, slD_frl, popD_ref, appendD_ref, extendD_ref, setD_ref, bindG_nm, bindG_tup, bindGs_nil, bindGs_cons, ixD_ref, startD, List.map_cons, List.map_nil, List.length_cons, List.length_nil, List.cons_append, List.nil_append, List.getElem?_cons_zero, List.getElem?_cons_succ, List.set_cons_zero, List.set_cons_succ, Option.some.injEq, exists_eq_left', exists_eq_left, Option.bind_some, Nat.reduceAdd, Nat.reduceSub, List.replicate_succ, List.replicate_zero, Dt.bl.injEq, Dt.int.injEq, decide_eq_true_eq, decide_eq_false_iff_not, Bool.false_eq_true, if_true, if_false, Bool.not_eq_true', Bool.not_true, Bool.not_false, bne_iff_ne, ne_eq, ixD_fr0, ixD_fr1, ixD_pair0, ixD_pair1, Dt.ref.injEq, List.cons.injEq, and_true, true_and, reduceIte, exists_eq, Nat.zero_add, Dt.tup.injEq, and_self, and_assoc, exists_and_left, fr_inj, pl_inj, ite_true, ite_false, sp_times, fr_nat]
    rw [if_pos hk']
    have sk : Sz 4000 (k : Rat) := by
      constructor
      · show ((k : Int)).natAbs < _
        exact Nat.lt_of_lt_of_le (show k < 2 ^ 10 by omega) (Nat.pow_le_pow_right (by omega) (by omega))
      · exact Nat.one_lt_two_pow (by omega)
    refine ⟨by decide, sk, sz_mono (hr q (List.mem_cons_self ..)) (by omega), _, put_same, ?_, ?_⟩
    · have : sizeLine = 16777216 := by decide
      rw [List.length_map]; omega
    · rw [put_put]
      have e : acc.map fr ++ [fr ((k : Rat) * q)] = (acc ++ [(k : Rat) * q]).map fr := by simp
      rw [e]
      refine lc_slope rfl rfl S0 rest (k + 1) _ (by omega) (fun a ha => hr a (List.mem_cons_of_mem _ ha)) (by rw [List.length_append]; simp only [List.length_cons, List.length_nil]; omega) (by omega) ?_
      rw [List.append_assoc]
      exact hD
theorem hw_slope_of : ∀ ds St Q R, sp_slope_of ds St Q R → t_slope_of (endsD Q R) (startD ["poly", "k", "item"] ds) St := by
  rintro ds S Q R ⟨p, rfl, ⟨hp, hl⟩, hQ⟩
  simp only [t_slope_of, rsFor, rLc, wipeD, rsNext, rsSeq, rsDrop, rsRet, rsRetN, rsIf, rsAsg, rsPar, rsPar3, rsAug, rsSet, rsBreak, rsCont, rVar, rC, rBin, rTru, rTest, rChain, rNeg, rNot, rAnd, rOr, rIf, rAndV, rOrV, rNotV, rNil, rCons, rTup, rLst, rNone, rSome, rSl, rCall, rCallK, rBlt, rLRev, rMeth, rMeth0, rYes, wSeq, wEnum, wRev, wRng1, wRng2, addD_int, addD_tup, addD_str, addD_ref, subD_int, mulD_int, mulD_ref, mulD_tup, fdivD_int, modD_int, powD_int, cmpD_int, isD_non, isnD_non, iaddD_int, isNon_non, isNon_int, isNon_str, isNon_tup, isNon_fr, isNon_bl, eqD_int, neD_int, absD_int, intD_int, intD_bl, lenD_tup, lenD_ref, lenD_pl, listD_pl, tupleD_pl, seqW_pl, enumW_pl, revW_pl, slD_pl, isNon_pl, addD_pl, listD_tup, listD_ref, tupleD_tup, tupleD_ref, max2D_int, min2D_int, truD_int, truD_bl, truD_tup, truD_non, seqW_tup, seqW_ref, enumW_tup, enumW_ref, revW_tup, revW_ref, rngW1_int, rngW2_int, slD_tup, slD_ref, slD_frl, popD_ref, appendD_ref, extendD_ref, setD_ref, bindG_nm, bindG_tup, bindGs_nil, bindGs_cons, ixD_ref, startD, List.map_cons, List.map_nil, List.length_cons, List.length_nil, List.cons_append, List.nil_append, List.getElem?_cons_zero, List.getElem?_cons_succ, List.set_cons_zero, List.set_cons_succ, Option.some.injEq, exists_eq_left', exists_eq_left, Option.bind_some, Nat.reduceAdd, Nat.reduceSub, List.replicate_succ, List.replicate_zero, Dt.bl.injEq, Dt.int.injEq, decide_eq_true_eq, decide_eq_false_iff_not, Bool.false_eq_true, if_true, if_false, Bool.not_eq_true', Bool.not_true, Bool.not_false, bne_iff_ne, ne_eq, ixD_fr0, ixD_fr1, ixD_pair0, ixD_pair1, Dt.ref.injEq, List.cons.injEq, and_true, true_and, reduceIte, exists_eq, Nat.zero_add, Dt.tup.injEq, and_self, and_assoc, exists_and_left, fr_inj, pl_inj, ite_true, ite_false]
  intro a ha
  have fin : (tupleD [Dt.ref a] (put S a (.lst ((slope p).map fr))) (endsD Q R).rt) := by
    simp only [rsFor, rLc, wipeD, rsNext, rsSeq, rsDrop, rsRet, rsRetN, rsIf, rsAsg, rsPar, rsPar3, rsAug, rsSet, rsBreak, rsCont, rVar, rC, rBin, rTru, rTest, rChain, rNeg, rNot, rAnd, rOr, rIf, rAndV, rOrV, rNotV, rNil, rCons, rTup, rLst, rNone, rSome, rSl, rCall, rCallK, rBlt, rLRev, rMeth, rMeth0, rYes, wSeq, wEnum, wRev, wRng1, wRng2, addD_int, addD_tup, addD_str, addD_ref, subD_int, mulD_int, mulD_ref, mulD_tup, fdivD_int, modD_int, powD_int, cmpD_int, isD_non, isnD_non, iaddD_int, isNon_non, isNon_int, isNon_str, isNon_tup, isNon_fr, isNon_bl, eqD_int, neD_int, absD_int, intD_int, intD_bl, lenD_tup, lenD_ref, lenD_pl, listD_pl, tupleD_pl, seqW_pl, enumW_pl, revW_pl, slD_pl, isNon_pl, addD_pl, listD_tup, listD_ref, tupleD_tup, tupleD_ref, max2D_int, min2D_int, truD_int, truD_bl, truD_tup, truD_non, seqW_tup, seqW_ref, enumW_tup, enumW_ref, revW_tup, revW_ref, rngW1_int, rngW2_int, slD_tup, slD_ref, slD_frl, popD_ref, appendD_ref, extendD_ref, setD_ref, bindG_nm, bindG_tup, bindGs_nil, bindGs_cons, ixD_ref, startD, List.map_cons, List.map_nil, List.length_cons, List.length_nil, List.cons_append, List.nil_append, List.getElem?_cons_zero, List.getElem?_cons_succ, List.set_cons_zero, List.set_cons_succ, Option.some.injEq, exists_eq_left', exists_eq_left, Option.bind_some, Nat.reduceAdd, Nat.reduceSub, List.replicate_succ, List.replicate_zero, Dt.bl.injEq, Dt.int.injEq, decide_eq_true_eq, decide_eq_false_iff_not, Bool.false_eq_true, if_true, if_false, Bool.not_eq_true', Bool.not_true, Bool.not_false, bne_iff_ne, ne_eq, ixD_fr0, ixD_fr1, ixD_pair0, ixD_pair1, Dt.ref.injEq, List.cons.injEq, and_true, true_and, reduceIte, exists_eq, Nat.zero_add, Dt.tup.injEq, and_self, and_assoc, exists_and_left, fr_inj, pl_inj, ite_true, ite_false, lst_same]
    exact rt_sub hQ (Sub.put ha)
  cases p with
  | nil => exact ⟨trivial, fin⟩
  | cons q p =>
    refine ⟨trivial, _, by simp only [bindG_tup, bindGs_cons, bindGs_nil, bindG_nm, Option.bind_some]; rfl, ?_⟩
    simp only [rsFor, rLc, wipeD, rsNext, rsSeq, rsDrop, rsRet, rsRetN, rsIf, rsAsg, rsPar, rsPar3, rsAug, rsSet, rsBreak, rsCont, rVar, rC, rBin, rTru, rTest, rChain, rNeg, rNot, rAnd, rOr, rIf, rAndV, rOrV, rNotV, rNil, rCons, rTup, rLst, rNone, rSome, rSl, rCall, rCallK, rBlt, rLRev, rMeth, rMeth0, rYes, wSeq, wEnum, wRev, wRng1, wRng2, addD_int, addD_tup, addD_str, addD_ref, subD_int, mulD_int, mulD_ref, mulD_tup, fdivD_int, modD_int, powD_int, cmpD_int, isD_non, isnD_non, iaddD_int, isNon_non, isNon_int, isNon_str, isNon_tup, isNon_fr, isNon_bl, eqD_int, neD_int, absD_int, intD_int, intD_bl, lenD_tup, lenD_ref, lenD_pl, listD_pl, tupleD_pl, seqW_pl, enumW_pl, revW_pl, slD_pl, isNon_pl, addD_pl, listD_tup, listD_ref, tupleD_tup, tupleD_ref, max2D_int, min2D_int, truD_int, truD_bl, truD_tup, truD_non, seqW_tup, seqW_ref, enumW_tup, enumW_ref, revW_tup, revW_ref, rngW1_int, rngW2_int, slD_tup, slD_ref, slD_frl, popD_ref, appendD_ref, extendD_ref, setD_ref, bindG_nm, bindG_tup, bindGs_nil, bindGs_cons, ixD_ref, startD, List.map_cons, List.map_nil, List.length_cons, List.length_nil, List.cons_append, List.nil_append, List.getElem?_cons_zero, List.getElem?_cons_succ, List.set_cons_zero, List.set_cons_succ, Option.some.injEq, exists_eq_left', exists_eq_left, Option.bind_some, Nat.reduceAdd, Nat.reduceSub, List.replicate_succ, List.replicate_zero, Dt.bl.injEq, Dt.int.injEq, decide_eq_true_eq, decide_eq_false_iff_not, Bool.false_eq_true, if_true, if_false, Bool.not_eq_true', Bool.not_true, Bool.not_false, bne_iff_ne, ne_eq, ixD_fr0, ixD_fr1, ixD_pair0, ixD_pair1, Dt.ref.injEq, List.cons.injEq, and_true, true_and, reduceIte, exists_eq, Nat.zero_add, Dt.tup.injEq, and_self, and_assoc, exists_and_left, fr_inj, pl_inj, ite_true, ite_false]
    rw [if_neg (by decide)]
    exact lc_slope rfl rfl S p 1 [] (by decide) (fun a ha => hp a (List.mem_cons_of_mem _ ha)) (by simp only [List.length_cons, List.length_nil] at *; omega) (by rw [List.length_cons] at hl; omega) fin
theorem len_slope_of : ∀ ds S Q R, sp_slope_of ds S Q R → ds.length = 1 := by rintro ds S Q R ⟨p, rfl, _⟩; rfl
theorem hw_poly_sum : ∀ ds St Q R, sp_poly_sum ds St Q R → t_poly_sum (endsD Q R) (startD ["one", "other"] ds) St := by
  rintro ds S Q R ⟨p, q, rfl, ⟨h1, h2⟩, hQ⟩
  simp only [t_poly_sum, sp_poly_plus, sp_fit_poly, rsFor, rLc, wipeD, rsNext, rsSeq, rsDrop, rsRet, rsRetN, rsIf, rsAsg, rsPar, rsPar3, rsAug, rsSet, rsBreak, rsCont, rVar, rC, rBin, rTru, rTest, rChain, rNeg, rNot, rAnd, rOr, rIf, rAndV, rOrV, rNotV, rNil, rCons, rTup, rLst, rNone, rSome, rSl, rCall, rCallK, rBlt, rLRev, rMeth, rMeth0, rYes, wSeq, wEnum, wRev, wRng1, wRng2, addD_int, addD_tup, addD_str, addD_ref, subD_int, mulD_int, mulD_ref, mulD_tup, fdivD_int, modD_int, powD_int, cmpD_int, isD_non, isnD_non, iaddD_int, isNon_non, isNon_int, isNon_str, isNon_tup, isNon_fr, isNon_bl, eqD_int, neD_int, absD_int, intD_int, intD_bl, lenD_tup, lenD_ref, lenD_pl, listD_pl, tupleD_pl, seqW_pl, enumW_pl, revW_pl, slD_pl, isNon_pl, addD_pl, listD_tup, listD_ref, tupleD_tup, tupleD_ref, max2D_int, min2D_int, truD_int, truD_bl, truD_tup, truD_non, seqW_tup, seqW_ref, enumW_tup, enumW_ref, revW_tup, revW_ref, rngW1_int, rngW2_int, slD_tup, slD_ref, slD_frl, popD_ref, appendD_ref, extendD_ref, setD_ref, bindG_nm, bindG_tup, bindGs_nil, bindGs_cons, ixD_ref, startD, List.map_cons, List.map_nil, List.length_cons, List.length_nil, List.cons_append, List.nil_append, List.getElem?_cons_zero, List.getElem?_cons_succ, List.set_cons_zero, List.set_cons_succ, Option.some.injEq, exists_eq_left', exists_eq_left, Option.bind_some, Nat.reduceAdd, Nat.reduceSub, List.replicate_succ, List.replicate_zero, Dt.bl.injEq, Dt.int.injEq, decide_eq_true_eq, decide_eq_false_iff_not, Bool.false_eq_true, if_true, if_false, Bool.not_eq_true', Bool.not_true, Bool.not_false, bne_iff_ne, ne_eq, ixD_fr0, ixD_fr1, ixD_pair0, ixD_pair1, Dt.ref.injEq, List.cons.injEq, and_true, true_and, reduceIte, exists_eq, Nat.zero_add, Dt.tup.injEq, and_self, and_assoc, exists_and_left, fr_inj, pl_inj, ite_true, ite_false]
  exact ⟨h1.1, h1.2, h2, rt_of hQ⟩
theorem hw_poly_product : ∀ ds St Q R, sp_poly_product ds St Q R → t_poly_product (endsD Q R) (startD ["one", "other"] ds) St := by
  rintro ds S Q R ⟨p, q, rfl, ⟨h1, h2⟩, hQ⟩
  simp only [t_poly_product, sp_poly_times, sp_fit_poly, rsFor, rLc, wipeD, rsNext, rsSeq, rsDrop, rsRet, rsRetN, rsIf, rsAsg, rsPar, rsPar3, rsAug, rsSet, rsBreak, rsCont, rVar, rC, rBin, rTru, rTest, rChain, rNeg, rNot, rAnd, rOr, rIf, rAndV, rOrV, rNotV, rNil, rCons, rTup, rLst, rNone, rSome, rSl, rCall, rCallK, rBlt, rLRev, rMeth, rMeth0, rYes, wSeq, wEnum, wRev, wRng1, wRng2, addD_int, addD_tup, addD_str, addD_ref, subD_int, mulD_int, mulD_ref, mulD_tup, fdivD_int, modD_int, powD_int, cmpD_int, isD_non, isnD_non, iaddD_int, isNon_non, isNon_int, isNon_str, isNon_tup, isNon_fr, isNon_bl, eqD_int, neD_int, absD_int, intD_int, intD_bl, lenD_tup, lenD_ref, lenD_pl, listD_pl, tupleD_pl, seqW_pl, enumW_pl, revW_pl, slD_pl, isNon_pl, addD_pl, listD_tup, listD_ref, tupleD_tup, tupleD_ref, max2D_int, min2D_int, truD_int, truD_bl, truD_tup, truD_non, seqW_tup, seqW_ref, enumW_tup, enumW_ref, revW_tup, revW_ref, rngW1_int, rngW2_int, slD_tup, slD_ref, slD_frl, popD_ref, appendD_ref, extendD_ref, setD_ref, bindG_nm, bindG_tup, bindGs_nil, bindGs_cons, ixD_ref, startD, List.map_cons, List.map_nil, List.length_cons, List.length_nil, List.cons_append, List.nil_append, List.getElem?_cons_zero, List.getElem?_cons_succ, List.set_cons_zero, List.set_cons_succ, Option.some.injEq, exists_eq_left', exists_eq_left, Option.bind_some, Nat.reduceAdd, Nat.reduceSub, List.replicate_succ, List.replicate_zero, Dt.bl.injEq, Dt.int.injEq, decide_eq_true_eq, decide_eq_false_iff_not, Bool.false_eq_true, if_true, if_false, Bool.not_eq_true', Bool.not_true, Bool.not_false, bne_iff_ne, ne_eq, ixD_fr0, ixD_fr1, ixD_pair0, ixD_pair1, Dt.ref.injEq, List.cons.injEq, and_true, true_and, reduceIte, exists_eq, Nat.zero_add, Dt.tup.injEq, and_self, and_assoc, exists_and_left, fr_inj, pl_inj, ite_true, ite_false]
  exact ⟨h1, h2, rt_of hQ⟩
theorem hw_poly_scaled : ∀ ds St Q R, sp_poly_scaled ds St Q R → t_poly_scaled (endsD Q R) (startD ["f", "poly"] ds) St := by
  rintro ds S Q R ⟨p, q, rfl, ⟨h1, h2⟩, hQ⟩
  simp only [t_poly_scaled, sp_poly_by, sp_fit_poly, rsFor, rLc, wipeD, rsNext, rsSeq, rsDrop, rsRet, rsRetN, rsIf, rsAsg, rsPar, rsPar3, rsAug, rsSet, rsBreak, rsCont, rVar, rC, rBin, rTru, rTest, rChain, rNeg, rNot, rAnd, rOr, rIf, rAndV, rOrV, rNotV, rNil, rCons, rTup, rLst, rNone, rSome, rSl, rCall, rCallK, rBlt, rLRev, rMeth, rMeth0, rYes, wSeq, wEnum, wRev, wRng1, wRng2, addD_int, addD_tup, addD_str, addD_ref, subD_int, mulD_int, mulD_ref, mulD_tup, fdivD_int, modD_int, powD_int, cmpD_int, isD_non, isnD_non, iaddD_int, isNon_non, isNon_int, isNon_str, isNon_tup, isNon_fr, isNon_bl, eqD_int, neD_int, absD_int, intD_int, intD_bl, lenD_tup, lenD_ref, lenD_pl, listD_pl, tupleD_pl, seqW_pl, enumW_pl, revW_pl, slD_pl, isNon_pl, addD_pl, listD_tup, listD_ref, tupleD_tup, tupleD_ref, max2D_int, min2D_int, truD_int, truD_bl, truD_tup, truD_non, seqW_tup, seqW_ref, enumW_tup, enumW_ref, revW_tup, revW_ref, rngW1_int, rngW2_int, slD_tup, slD_ref, slD_frl, popD_ref, appendD_ref, extendD_ref, setD_ref, bindG_nm, bindG_tup, bindGs_nil, bindGs_cons, ixD_ref, startD, List.map_cons, List.map_nil, List.length_cons, List.length_nil, List.cons_append, List.nil_append, List.getElem?_cons_zero, List.getElem?_cons_succ, List.set_cons_zero, List.set_cons_succ, Option.some.injEq, exists_eq_left', exists_eq_left, Option.bind_some, Nat.reduceAdd, Nat.reduceSub, List.replicate_succ, List.replicate_zero, Dt.bl.injEq, Dt.int.injEq, decide_eq_true_eq, decide_eq_false_iff_not, Bool.false_eq_true, if_true, if_false, Bool.not_eq_true', Bool.not_true, Bool.not_false, bne_iff_ne, ne_eq, ixD_fr0, ixD_fr1, ixD_pair0, ixD_pair1, Dt.ref.injEq, List.cons.injEq, and_true, true_and, reduceIte, exists_eq, Nat.zero_add, Dt.tup.injEq, and_self, and_assoc, exists_and_left, fr_inj, pl_inj, ite_true, ite_false]
  exact ⟨h1.1, h1.2, h2, rt_of hQ⟩
theorem AtPre.sz {p : List Rat} {t : Rat} (h : AtPre p t) : Sz 1900 (ev p t) := by
  obtain ⟨D, M, E, N, wp, wt, hl, d, e0, n, h1, h2, h3, h4⟩ := h
  exact ev_sz wp wt hl d e0 n h1 h2
theorem hw_poly_at : ∀ ds St Q R, sp_poly_at ds St Q R → t_poly_at (endsD Q R) (startD ["poly", "t"] ds) St := by
  rintro ds S Q R ⟨p, t, rfl, h1, hQ⟩
  simp only [t_poly_at, sp_value_at, sp_fit_fraction, rsFor, rLc, wipeD, rsNext, rsSeq, rsDrop, rsRet, rsRetN, rsIf, rsAsg, rsPar, rsPar3, rsAug, rsSet, rsBreak, rsCont, rVar, rC, rBin, rTru, rTest, rChain, rNeg, rNot, rAnd, rOr, rIf, rAndV, rOrV, rNotV, rNil, rCons, rTup, rLst, rNone, rSome, rSl, rCall, rCallK, rBlt, rLRev, rMeth, rMeth0, rYes, wSeq, wEnum, wRev, wRng1, wRng2, addD_int, addD_tup, addD_str, addD_ref, subD_int, mulD_int, mulD_ref, mulD_tup, fdivD_int, modD_int, powD_int, cmpD_int, isD_non, isnD_non, iaddD_int, isNon_non, isNon_int, isNon_str, isNon_tup, isNon_fr, isNon_bl, eqD_int, neD_int, absD_int, intD_int, intD_bl, lenD_tup, lenD_ref, lenD_pl, listD_pl, tupleD_pl, seqW_pl, enumW_pl, revW_pl, slD_pl, isNon_pl, addD_pl, listD_tup, listD_ref, tupleD_tup, tupleD_ref, max2D_int, min2D_int, truD_int, truD_bl, truD_tup, truD_non, seqW_tup, seqW_ref, enumW_tup, enumW_ref, revW_tup, revW_ref, rngW1_int, rngW2_int, slD_tup, slD_ref, slD_frl, popD_ref, appendD_ref, extendD_ref, setD_ref, bindG_nm, bindG_tup, bindGs_nil, bindGs_cons, ixD_ref, startD, List.map_cons, List.map_nil, List.length_cons, List.length_nil, List.cons_append, List.nil_append, List.getElem?_cons_zero, List.getElem?_cons_succ, List.set_cons_zero, List.set_cons_succ, Option.some.injEq, exists_eq_left', exists_eq_left, Option.bind_some, Nat.reduceAdd, Nat.reduceSub, List.replicate_succ, List.replicate_zero, Dt.bl.injEq, Dt.int.injEq, decide_eq_true_eq, decide_eq_false_iff_not, Bool.false_eq_true, if_true, if_false, Bool.not_eq_true', Bool.not_true, Bool.not_false, bne_iff_ne, ne_eq, ixD_fr0, ixD_fr1, ixD_pair0, ixD_pair1, Dt.ref.injEq, List.cons.injEq, and_true, true_and, reduceIte, exists_eq, Nat.zero_add, Dt.tup.injEq, and_self, and_assoc, exists_and_left, fr_inj, pl_inj, ite_true, ite_false]
  exact ⟨h1, sz_mono h1.sz (by omega), rt_of hQ⟩
theorem hw_poly_slope : ∀ ds St Q R, sp_poly_slope ds St Q R → t_poly_slope (endsD Q R) (startD ["poly"] ds) St := by
  rintro ds S Q R ⟨p, rfl, ⟨h1, h2⟩, hQ⟩
  simp only [t_poly_slope, sp_slope_of, sp_fit_poly, rsFor, rLc, wipeD, rsNext, rsSeq, rsDrop, rsRet, rsRetN, rsIf, rsAsg, rsPar, rsPar3, rsAug, rsSet, rsBreak, rsCont, rVar, rC, rBin, rTru, rTest, rChain, rNeg, rNot, rAnd, rOr, rIf, rAndV, rOrV, rNotV, rNil, rCons, rTup, rLst, rNone, rSome, rSl, rCall, rCallK, rBlt, rLRev, rMeth, rMeth0, rYes, wSeq, wEnum, wRev, wRng1, wRng2, addD_int, addD_tup, addD_str, addD_ref, subD_int, mulD_int, mulD_ref, mulD_tup, fdivD_int, modD_int, powD_int, cmpD_int, isD_non, isnD_non, iaddD_int, isNon_non, isNon_int, isNon_str, isNon_tup, isNon_fr, isNon_bl, eqD_int, neD_int, absD_int, intD_int, intD_bl, lenD_tup, lenD_ref, lenD_pl, listD_pl, tupleD_pl, seqW_pl, enumW_pl, revW_pl, slD_pl, isNon_pl, addD_pl, listD_tup, listD_ref, tupleD_tup, tupleD_ref, max2D_int, min2D_int, truD_int, truD_bl, truD_tup, truD_non, seqW_tup, seqW_ref, enumW_tup, enumW_ref, revW_tup, revW_ref, rngW1_int, rngW2_int, slD_tup, slD_ref, slD_frl, popD_ref, appendD_ref, extendD_ref, setD_ref, bindG_nm, bindG_tup, bindGs_nil, bindGs_cons, ixD_ref, startD, List.map_cons, List.map_nil, List.length_cons, List.length_nil, List.cons_append, List.nil_append, List.getElem?_cons_zero, List.getElem?_cons_succ, List.set_cons_zero, List.set_cons_succ, Option.some.injEq, exists_eq_left', exists_eq_left, Option.bind_some, Nat.reduceAdd, Nat.reduceSub, List.replicate_succ, List.replicate_zero, Dt.bl.injEq, Dt.int.injEq, decide_eq_true_eq, decide_eq_false_iff_not, Bool.false_eq_true, if_true, if_false, Bool.not_eq_true', Bool.not_true, Bool.not_false, bne_iff_ne, ne_eq, ixD_fr0, ixD_fr1, ixD_pair0, ixD_pair1, Dt.ref.injEq, List.cons.injEq, and_true, true_and, reduceIte, exists_eq, Nat.zero_add, Dt.tup.injEq, and_self, and_assoc, exists_and_left, fr_inj, pl_inj, ite_true, ite_false]
  exact ⟨h1.1, h1.2, h2, rt_of hQ⟩
theorem len_poly_sum : ∀ ds S Q R, sp_poly_sum ds S Q R → ds.length = 2 := by rintro ds S Q R ⟨p, q, rfl, _⟩; rfl
theorem len_poly_product : ∀ ds S Q R, sp_poly_product ds S Q R → ds.length = 2 := by rintro ds S Q R ⟨p, q, rfl, _⟩; rfl
theorem len_poly_scaled : ∀ ds S Q R, sp_poly_scaled ds S Q R → ds.length = 2 := by rintro ds S Q R ⟨p, q, rfl, _⟩; rfl
theorem len_poly_at : ∀ ds S Q R, sp_poly_at ds S Q R → ds.length = 2 := by rintro ds S Q R ⟨p, q, rfl, _⟩; rfl
theorem len_poly_slope : ∀ ds S Q R, sp_poly_slope ds S Q R → ds.length = 1 := by rintro ds S Q R ⟨p, rfl, _⟩; rfl
end Ev

namespace Ev
open PySem PySem.Spec PyProof.Rows L2
/-! ### the law's own fractions, polynomials -/
def sp__law_gcd : SpD := sp_common_divisor
def sp__law_frac : SpD := fun ds S Q _ => ∃ a b : Int, ds = [.int a, .int b] ∧ (0 < b ∧ b.natAbs.log2 < 9000) ∧ Q (fr (Rat.divInt a b)) S
def sp__law_plus : SpD := sp_plus
def sp__law_times : SpD := sp_times
def sp__law_minus : SpD := fun ds S Q _ => ∃ a : Rat, ds = [fr a] ∧ Q (fr (-a)) S
def sp__law_trim : SpD := fun ds S Q _ => ∃ (x : Dt) (p : List Rat), ds = [x] ∧ SeqP S x p ∧ Q (pl (trim p)) S
def sp__law_poly_plus : SpD := fun ds S Q _ => ∃ p q : List Rat, ds = [pl p, pl q] ∧ ((∀ a ∈ p, Sz 4000 a) ∧ (∀ a ∈ q, Sz 4000 a) ∧ p.length ≤ 1000 ∧ q.length ≤ 1000) ∧ Q (pl (pAdd p q)) S
def sp__law_poly_scaled : SpD := fun ds S Q _ => ∃ (f : Rat) (p : List Rat), ds = [fr f, pl p] ∧ ByPre f p ∧ Q (pl (pScale f p)) S
def sp__law_poly_times : SpD := sp_poly_times
def sp__law_poly_at : SpD := sp_value_at
def sp__law_poly_slope : SpD := sp_slope_of
def t__law_gcd : RS := rsSeq (rsPar 0 1 (rCons (rBlt absD (rCons (rVar 0) rNil)) (rCons (rBlt absD (rCons (rVar 1) rNil)) rNil))) (rsSeq (rsWhile (rTest (rBin (cmpD fun i j => decide (j < i)) (rVar 1) (rC (Dt.int 0)))) (rsPar 0 1 (rCons (rVar 1) (rCons (rBin modD (rBlt Ev.intD (rCons (rVar 0) rNil)) (rVar 1)) rNil)))) (rsRet (rVar 0)))
def t__law_frac : RS := rsSeq (rsAsg (rCall sp__law_gcd (rCons (rVar 0) (rCons (rVar 1) rNil))) (Tg.nm 2)) (rsRet (rIf (rTest (rBin (cmpD fun i j => decide (j < i)) (rVar 1) (rC (Dt.int 0)))) (rTup (rCons (rBin fdivD (rVar 0) (rVar 2)) (rCons (rBin fdivD (rVar 1) (rVar 2)) rNil))) (rTup (rCons (rBin subD (rC (Dt.int 0)) (rBin fdivD (rVar 0) (rVar 2))) (rCons (rBin subD (rC (Dt.int 0)) (rBin fdivD (rVar 1) (rVar 2))) rNil)))))
def t__law_plus : RS := rsSeq (rsIf (rOr (rTest (rBin eqD (rBin ixD (rVar 0) (rC (Dt.int 0))) (rC (Dt.int 0)))) (rTest (rBin eqD (rBin ixD (rVar 1) (rC (Dt.int 0))) (rC (Dt.int 0))))) (rsRet (rIf (rTest (rBin eqD (rBin ixD (rVar 0) (rC (Dt.int 0))) (rC (Dt.int 0)))) (rVar 1) (rVar 0))) rsNext) (rsRet (rCall sp__law_frac (rCons (rBin addD (rBin mulD (rBin ixD (rVar 0) (rC (Dt.int 0))) (rBin ixD (rVar 1) (rC (Dt.int 1)))) (rBin mulD (rBin ixD (rVar 1) (rC (Dt.int 0))) (rBin ixD (rVar 0) (rC (Dt.int 1))))) (rCons (rBin mulD (rBin ixD (rVar 0) (rC (Dt.int 1))) (rBin ixD (rVar 1) (rC (Dt.int 1)))) rNil))))
def t__law_times : RS := rsRet (rIf (rAnd (rTest (rBin neD (rBin ixD (rVar 0) (rC (Dt.int 0))) (rC (Dt.int 0)))) (rTest (rBin neD (rBin ixD (rVar 1) (rC (Dt.int 0))) (rC (Dt.int 0))))) (rCall sp__law_frac (rCons (rBin mulD (rBin ixD (rVar 0) (rC (Dt.int 0))) (rBin ixD (rVar 1) (rC (Dt.int 0)))) (rCons (rBin mulD (rBin ixD (rVar 0) (rC (Dt.int 1))) (rBin ixD (rVar 1) (rC (Dt.int 1)))) rNil))) (rTup (rCons (rC (Dt.int 0)) (rCons (rC (Dt.int 1)) rNil))))
def t__law_minus : RS := rsRet (rTup (rCons (rBin subD (rC (Dt.int 0)) (rBin ixD (rVar 0) (rC (Dt.int 0)))) (rCons (rBin ixD (rVar 0) (rC (Dt.int 1))) rNil)))
def t__law_trim : RS := rsSeq (rsAsg (rBlt listD (rCons (rVar 0) rNil)) (Tg.nm 0)) (rsSeq (rsWhile (rAnd (rTest (rBin neD (rVar 0) (rLst rNil))) (rTest (rBin eqD (rBin ixD (rBin ixD (rVar 0) (rNeg (rC (Dt.int 1)))) (rC (Dt.int 0))) (rC (Dt.int 0))))) (rsDrop (rMeth0 popD (rVar 0)))) (rsRet (rBlt tupleD (rCons (rVar 0) rNil))))
def t__law_poly_plus : RS := rsSeq (rsAsg (rLst rNil) (Tg.nm 2)) (rsSeq (rsFor (wRng1 (rCons (rBlt max2D (rCons (rBlt lenD (rCons (rVar 0) rNil)) (rCons (rBlt lenD (rCons (rVar 1) rNil)) rNil))) rNil)) (Tg.nm 3) (rsSeq (rsAsg (rIf (rTest (rBin (cmpD fun i j => decide (i < j)) (rVar 3) (rBlt lenD (rCons (rVar 0) rNil)))) (rBin ixD (rVar 0) (rVar 3)) (rTup (rCons (rC (Dt.int 0)) (rCons (rC (Dt.int 1)) rNil)))) (Tg.nm 4)) (rsDrop (rMeth appendD (rVar 2) (rCons (rIf (rTest (rBin (cmpD fun i j => decide (i < j)) (rVar 3) (rBlt lenD (rCons (rVar 1) rNil)))) (rCall sp__law_plus (rCons (rVar 4) (rCons (rBin ixD (rVar 1) (rVar 3)) rNil))) (rVar 4)) rNil))))) (rsRet (rCall sp__law_trim (rCons (rVar 2) rNil))))
def t__law_poly_scaled : RS := rsRet (rCall sp__law_trim (rCons (rLc (wSeq (rVar 1)) (Tg.nm 2) rYes (rCall sp__law_times (rCons (rVar 0) (rCons (rVar 2) rNil))) [2]) rNil))
def t__law_poly_times : RS := rsSeq (rsAsg (rBin mulD (rLst (rCons (rTup (rCons (rC (Dt.int 0)) (rCons (rC (Dt.int 1)) rNil))) rNil)) (rBlt max2D (rCons (rC (Dt.int 0)) (rCons (rBin subD (rBin addD (rBlt lenD (rCons (rVar 0) rNil)) (rBlt lenD (rCons (rVar 1) rNil))) (rC (Dt.int 1))) rNil)))) (Tg.nm 2)) (rsSeq (rsFor (wEnum (rVar 0)) (Tg.tup [Tg.nm 3, Tg.nm 4]) (rsFor (wEnum (rVar 1)) (Tg.tup [Tg.nm 5, Tg.nm 6]) (rsSet (rCall sp__law_plus (rCons (rBin ixD (rVar 2) (rBin addD (rVar 3) (rVar 5))) (rCons (rCall sp__law_times (rCons (rVar 4) (rCons (rVar 6) rNil))) rNil))) (rVar 2) (rBin addD (rVar 3) (rVar 5))))) (rsRet (rCall sp__law_trim (rCons (rVar 2) rNil))))
def t__law_poly_at : RS := rsSeq (rsAsg (rTup (rCons (rC (Dt.int 0)) (rCons (rC (Dt.int 1)) rNil))) (Tg.nm 2)) (rsSeq (rsFor (wSeq (rLRev (rBlt listD (rCons (rVar 0) rNil)))) (Tg.nm 3) (rsAsg (rCall sp__law_plus (rCons (rCall sp__law_times (rCons (rVar 2) (rCons (rVar 1) rNil))) (rCons (rVar 3) rNil))) (Tg.nm 2))) (rsRet (rVar 2)))
def t__law_poly_slope : RS := rsRet (rIf (rTest (rBin (cmpD fun i j => decide (j < i)) (rBlt lenD (rCons (rVar 0) rNil)) (rC (Dt.int 1)))) (rBlt tupleD (rCons (rLc (wRng2 (rCons (rC (Dt.int 1)) (rCons (rBlt lenD (rCons (rVar 0) rNil)) rNil))) (Tg.nm 1) rYes (rCall sp__law_times (rCons (rTup (rCons (rVar 1) (rCons (rC (Dt.int 1)) rNil))) (rCons (rBin ixD (rVar 0) (rVar 1)) rNil))) [1]) rNil)) (rTup rNil))
theorem hw__law_gcd : ∀ ds St Q R, sp__law_gcd ds St Q R → t__law_gcd (endsD Q R) (startD ["a", "b"] ds) St := by
  rintro ds S Q R ⟨a, b, rfl, hQ⟩
  simp only [t__law_gcd, rsFor, rLc, wipeD, rsNext, rsSeq, rsDrop, rsRet, rsRetN, rsIf, rsAsg, rsPar, rsPar3, rsAug, rsSet, rsBreak, rsCont, rVar, rC, rBin, rTru, rTest, rChain, rNeg, rNot, rAnd, rOr, rIf, rAndV, rOrV, rNotV, rNil, rCons, rTup, rLst, rNone, rSome, rSl, rCall, rCallK, rBlt, rLRev, rMeth, rMeth0, rYes, wSeq, wEnum, wRev, wRng1, wRng2, addD_int, addD_tup, addD_str, addD_ref, subD_int, mulD_int, mulD_ref, mulD_tup, fdivD_int, modD_int, powD_int, cmpD_int, isD_non, isnD_non, iaddD_int, isNon_non, isNon_int, isNon_str, isNon_tup, isNon_fr, isNon_bl, eqD_int, neD_int, absD_int, intD_int, intD_bl, lenD_tup, lenD_ref, lenD_pl, listD_pl, tupleD_pl, seqW_pl, enumW_pl, revW_pl, slD_pl, isNon_pl, addD_pl, listD_tup, listD_ref, tupleD_tup, tupleD_ref, max2D_int, min2D_int, truD_int, truD_bl, truD_tup, truD_non, seqW_tup, seqW_ref, enumW_tup, enumW_ref, revW_tup, revW_ref, rngW1_int, rngW2_int, slD_tup, slD_ref, slD_frl, popD_ref, appendD_ref, extendD_ref, setD_ref, bindG_nm, bindG_tup, bindGs_nil, bindGs_cons, ixD_ref, startD, List.map_cons, List.map_nil, List.length_cons, List.length_nil, List.cons_append, List.nil_append, List.getElem?_cons_zero, List.getElem?_cons_succ, List.set_cons_zero, List.set_cons_succ, Option.some.injEq, exists_eq_left', exists_eq_left, Option.bind_some, Nat.reduceAdd, Nat.reduceSub, List.replicate_succ, List.replicate_zero, Dt.bl.injEq, Dt.int.injEq, decide_eq_true_eq, decide_eq_false_iff_not, Bool.false_eq_true, if_true, if_false, Bool.not_eq_true', Bool.not_true, Bool.not_false, bne_iff_ne, ne_eq, ixD_fr0, ixD_fr1, ixD_pair0, ixD_pair1, Dt.ref.injEq, List.cons.injEq, and_true, true_and, reduceIte, exists_eq, Nat.zero_add, Dt.tup.injEq, and_self, and_assoc, exists_and_left, fr_inj, pl_inj, ite_true, ite_false]
  simp only [abs_eq]
  refine while_rule (fun m σ S' => S' = S ∧ ∃ x y : Nat, m = y ∧ Nat.gcd x y = Int.gcd a b ∧ σ = [some (.int (x : Int)), some (.int (y : Int))]) b.natAbs ⟨rfl, _, _, rfl, rfl, rfl⟩ ?_
  rintro m σ S' ⟨rfl, x, y, rfl, hg, rfl⟩
  simp only [rsFor, rLc, wipeD, rsNext, rsSeq, rsDrop, rsRet, rsRetN, rsIf, rsAsg, rsPar, rsPar3, rsAug, rsSet, rsBreak, rsCont, rVar, rC, rBin, rTru, rTest, rChain, rNeg, rNot, rAnd, rOr, rIf, rAndV, rOrV, rNotV, rNil, rCons, rTup, rLst, rNone, rSome, rSl, rCall, rCallK, rBlt, rLRev, rMeth, rMeth0, rYes, wSeq, wEnum, wRev, wRng1, wRng2, addD_int, addD_tup, addD_str, addD_ref, subD_int, mulD_int, mulD_ref, mulD_tup, fdivD_int, modD_int, powD_int, cmpD_int, isD_non, isnD_non, iaddD_int, isNon_non, isNon_int, isNon_str, isNon_tup, isNon_fr, isNon_bl, eqD_int, neD_int, absD_int, intD_int, intD_bl, lenD_tup, lenD_ref, lenD_pl, listD_pl, tupleD_pl, seqW_pl, enumW_pl, revW_pl, slD_pl, isNon_pl, addD_pl, listD_tup, listD_ref, tupleD_tup, tupleD_ref, max2D_int, min2D_int, truD_int, truD_bl, truD_tup, truD_non, seqW_tup, seqW_ref, enumW_tup, enumW_ref, revW_tup, revW_ref, rngW1_int, rngW2_int, slD_tup, slD_ref, slD_frl, popD_ref, appendD_ref, extendD_ref, setD_ref, bindG_nm, bindG_tup, bindGs_nil, bindGs_cons, ixD_ref, startD, List.map_cons, List.map_nil, List.length_cons, List.length_nil, List.cons_append, List.nil_append, List.getElem?_cons_zero, List.getElem?_cons_succ, List.set_cons_zero, List.set_cons_succ, Option.some.injEq, exists_eq_left', exists_eq_left, Option.bind_some, Nat.reduceAdd, Nat.reduceSub, List.replicate_succ, List.replicate_zero, Dt.bl.injEq, Dt.int.injEq, decide_eq_true_eq, decide_eq_false_iff_not, Bool.false_eq_true, if_true, if_false, Bool.not_eq_true', Bool.not_true, Bool.not_false, bne_iff_ne, ne_eq, ixD_fr0, ixD_fr1, ixD_pair0, ixD_pair1, Dt.ref.injEq, List.cons.injEq, and_true, true_and, reduceIte, exists_eq, Nat.zero_add, Dt.tup.injEq, and_self, and_assoc, exists_and_left, fr_inj, pl_inj, ite_true, ite_false]
  split
  · rename_i hx
    have hm : 0 < m := by omega
    refine ⟨_, fun _ _ h => h, by omega, x % m, Nat.mod_lt _ hm, rfl, m, ?_, rfl⟩
    rw [← hg, Nat.gcd_comm x m, Nat.gcd_rec m x, Nat.gcd_comm]
  · rename_i hx
    have e : m = 0 := by omega
    subst e
    rw [Nat.gcd_zero_right] at hg
    rw [hg]
    exact rt_of hQ
theorem hw__law_frac : ∀ ds St Q R, sp__law_frac ds St Q R → t__law_frac (endsD Q R) (startD ["a", "b", "c"] ds) St := by
  rintro ds S Q R ⟨a, b, rfl, ⟨h0, hl⟩, hQ⟩
  simp only [t__law_frac, sp__law_gcd, sp_common_divisor, rsFor, rLc, wipeD, rsNext, rsSeq, rsDrop, rsRet, rsRetN, rsIf, rsAsg, rsPar, rsPar3, rsAug, rsSet, rsBreak, rsCont, rVar, rC, rBin, rTru, rTest, rChain, rNeg, rNot, rAnd, rOr, rIf, rAndV, rOrV, rNotV, rNil, rCons, rTup, rLst, rNone, rSome, rSl, rCall, rCallK, rBlt, rLRev, rMeth, rMeth0, rYes, wSeq, wEnum, wRev, wRng1, wRng2, addD_int, addD_tup, addD_str, addD_ref, subD_int, mulD_int, mulD_ref, mulD_tup, fdivD_int, modD_int, powD_int, cmpD_int, isD_non, isnD_non, iaddD_int, isNon_non, isNon_int, isNon_str, isNon_tup, isNon_fr, isNon_bl, eqD_int, neD_int, absD_int, intD_int, intD_bl, lenD_tup, lenD_ref, lenD_pl, listD_pl, tupleD_pl, seqW_pl, enumW_pl, revW_pl, slD_pl, isNon_pl, addD_pl, listD_tup, listD_ref, tupleD_tup, tupleD_ref, max2D_int, min2D_int, truD_int, truD_bl, truD_tup, truD_non, seqW_tup, seqW_ref, enumW_tup, enumW_ref, revW_tup, revW_ref, rngW1_int, rngW2_int, slD_tup, slD_ref, slD_frl, popD_ref, appendD_ref, extendD_ref, setD_ref, bindG_nm, bindG_tup, bindGs_nil, bindGs_cons, ixD_ref, startD, List.map_cons, List.map_nil, List.length_cons, List.length_nil, List.cons_append, List.nil_append, List.getElem?_cons_zero, List.getElem?_cons_succ, List.set_cons_zero, List.set_cons_succ, Option.some.injEq, exists_eq_left', exists_eq_left, Option.bind_some, Nat.reduceAdd, Nat.reduceSub, List.replicate_succ, List.replicate_zero, Dt.bl.injEq, Dt.int.injEq, decide_eq_true_eq, decide_eq_false_iff_not, Bool.false_eq_true, if_true, if_false, Bool.not_eq_true', Bool.not_true, Bool.not_false, bne_iff_ne, ne_eq, ixD_fr0, ixD_fr1, ixD_pair0, ixD_pair1, Dt.ref.injEq, List.cons.injEq, and_true, true_and, reduceIte, exists_eq, Nat.zero_add, Dt.tup.injEq, and_self, and_assoc, exists_and_left, fr_inj, pl_inj, ite_true, ite_false]
  rw [if_pos h0]
  have g0 : 0 < Int.gcd a b := gcd_pos (by omega)
  have gl : (Int.gcd a b).log2 < 9000 := gcd_log (by omega) hl
  refine ⟨⟨by omega, gl⟩, ⟨by omega, gl⟩, by decide, rt_of ?_⟩
  rw [fr_divInt h0] at hQ
  exact hQ
theorem mk_parts {a b : Rat} (ha : Sz 4000 a) (hb : Sz 4000 b) : (0 : Int) < (a.den : Int) * (b.den : Int) ∧ ((a.den : Int) * (b.den : Int)).natAbs.log2 < 9000 := by
  have d1 : (0 : Int) < a.den := by have := a.den_pos; omega
  have d2 : (0 : Int) < b.den := by have := b.den_pos; omega
  refine ⟨Int.mul_pos d1 d2, ?_⟩
  rw [Int.natAbs_mul]
  exact log2_lt (Nat.lt_of_lt_of_le (mul_lt_pow ha.2 hb.2) (Nat.pow_le_pow_right (by omega) (by omega))) (by omega)
theorem hw__law_plus : ∀ ds St Q R, sp__law_plus ds St Q R → t__law_plus (endsD Q R) (startD ["x", "y"] ds) St := by
  rintro ds S Q R ⟨a, b, rfl, ⟨ha, hb⟩, hQ⟩
  simp only [t__law_plus, sp__law_frac, rsFor, rLc, wipeD, rsNext, rsSeq, rsDrop, rsRet, rsRetN, rsIf, rsAsg, rsPar, rsPar3, rsAug, rsSet, rsBreak, rsCont, rVar, rC, rBin, rTru, rTest, rChain, rNeg, rNot, rAnd, rOr, rIf, rAndV, rOrV, rNotV, rNil, rCons, rTup, rLst, rNone, rSome, rSl, rCall, rCallK, rBlt, rLRev, rMeth, rMeth0, rYes, wSeq, wEnum, wRev, wRng1, wRng2, addD_int, addD_tup, addD_str, addD_ref, subD_int, mulD_int, mulD_ref, mulD_tup, fdivD_int, modD_int, powD_int, cmpD_int, isD_non, isnD_non, iaddD_int, isNon_non, isNon_int, isNon_str, isNon_tup, isNon_fr, isNon_bl, eqD_int, neD_int, absD_int, intD_int, intD_bl, lenD_tup, lenD_ref, lenD_pl, listD_pl, tupleD_pl, seqW_pl, enumW_pl, revW_pl, slD_pl, isNon_pl, addD_pl, listD_tup, listD_ref, tupleD_tup, tupleD_ref, max2D_int, min2D_int, truD_int, truD_bl, truD_tup, truD_non, seqW_tup, seqW_ref, enumW_tup, enumW_ref, revW_tup, revW_ref, rngW1_int, rngW2_int, slD_tup, slD_ref, slD_frl, popD_ref, appendD_ref, extendD_ref, setD_ref, bindG_nm, bindG_tup, bindGs_nil, bindGs_cons, ixD_ref, startD, List.map_cons, List.map_nil, List.length_cons, List.length_nil, List.cons_append, List.nil_append, List.getElem?_cons_zero, List.getElem?_cons_succ, List.set_cons_zero, List.set_cons_succ, Option.some.injEq, exists_eq_left', exists_eq_left, Option.bind_some, Nat.reduceAdd, Nat.reduceSub, List.replicate_succ, List.replicate_zero, Dt.bl.injEq, Dt.int.injEq, decide_eq_true_eq, decide_eq_false_iff_not, Bool.false_eq_true, if_true, if_false, Bool.not_eq_true', Bool.not_true, Bool.not_false, bne_iff_ne, ne_eq, ixD_fr0, ixD_fr1, ixD_pair0, ixD_pair1, Dt.ref.injEq, List.cons.injEq, and_true, true_and, reduceIte, exists_eq, Nat.zero_add, Dt.tup.injEq, and_self, and_assoc, exists_and_left, fr_inj, pl_inj, ite_true, ite_false]
  have nn : ∀ n : Nat, ((n : Nat) : Int).natAbs = n := fun n => rfl
  split
  · rename_i h
    have : a = 0 := Rat.num_eq_zero.mp h
    subst this
    have e : (0 : Rat) + b = b := by grind
    rw [e] at hQ
    exact rt_of hQ
  · split
    · rename_i h0 h
      have : b = 0 := Rat.num_eq_zero.mp h
      subst this
      have e : a + (0 : Rat) = a := by grind
      rw [e] at hQ
      exact rt_of hQ
    · obtain ⟨k1, k2⟩ := mk_parts ha hb
      refine ⟨mulOk_of ha.1 (by rw [nn]; exact hb.2) (by omega), mulOk_of hb.1 (by rw [nn]; exact ha.2) (by omega), mulOk_of (by rw [nn]; exact ha.2) (by rw [nn]; exact hb.2) (by omega), k1, k2, rt_of ?_⟩
      rw [divInt_add]
      exact hQ
theorem hw__law_times : ∀ ds St Q R, sp__law_times ds St Q R → t__law_times (endsD Q R) (startD ["x", "y"] ds) St := by
  rintro ds S Q R ⟨a, b, rfl, ⟨ha, hb⟩, hQ⟩
  simp only [t__law_times, sp__law_frac, rsFor, rLc, wipeD, rsNext, rsSeq, rsDrop, rsRet, rsRetN, rsIf, rsAsg, rsPar, rsPar3, rsAug, rsSet, rsBreak, rsCont, rVar, rC, rBin, rTru, rTest, rChain, rNeg, rNot, rAnd, rOr, rIf, rAndV, rOrV, rNotV, rNil, rCons, rTup, rLst, rNone, rSome, rSl, rCall, rCallK, rBlt, rLRev, rMeth, rMeth0, rYes, wSeq, wEnum, wRev, wRng1, wRng2, addD_int, addD_tup, addD_str, addD_ref, subD_int, mulD_int, mulD_ref, mulD_tup, fdivD_int, modD_int, powD_int, cmpD_int, isD_non, isnD_non, iaddD_int, isNon_non, isNon_int, isNon_str, isNon_tup, isNon_fr, isNon_bl, eqD_int, neD_int, absD_int, intD_int, intD_bl, lenD_tup, lenD_ref, lenD_pl, listD_pl, tupleD_pl, seqW_pl, enumW_pl, revW_pl, slD_pl, isNon_pl, addD_pl, listD_tup, listD_ref, tupleD_tup, tupleD_ref, max2D_int, min2D_int, truD_int, truD_bl, truD_tup, truD_non, seqW_tup, seqW_ref, enumW_tup, enumW_ref, revW_tup, revW_ref, rngW1_int, rngW2_int, slD_tup, slD_ref, slD_frl, popD_ref, appendD_ref, extendD_ref, setD_ref, bindG_nm, bindG_tup, bindGs_nil, bindGs_cons, ixD_ref, startD, List.map_cons, List.map_nil, List.length_cons, List.length_nil, List.cons_append, List.nil_append, List.getElem?_cons_zero, List.getElem?_cons_succ, List.set_cons_zero, List.set_cons_succ, Option.some.injEq, exists_eq_left', exists_eq_left, Option.bind_some, Nat.reduceAdd, Nat.reduceSub, List.replicate_succ, List.replicate_zero, Dt.bl.injEq, Dt.int.injEq, decide_eq_true_eq, decide_eq_false_iff_not, Bool.false_eq_true, if_true, if_false, Bool.not_eq_true', Bool.not_true, Bool.not_false, bne_iff_ne, ne_eq, ixD_fr0, ixD_fr1, ixD_pair0, ixD_pair1, Dt.ref.injEq, List.cons.injEq, and_true, true_and, reduceIte, exists_eq, Nat.zero_add, Dt.tup.injEq, and_self, and_assoc, exists_and_left, fr_inj, pl_inj, ite_true, ite_false]
  have nn : ∀ n : Nat, ((n : Nat) : Int).natAbs = n := fun n => rfl
  have z : ∀ c d : Rat, c = 0 ∨ d = 0 → a = c → b = d → 2 ≤ sizeLine ∧ (endsD Q R).rt (Dt.tup [Dt.int 0, Dt.int 1]) S := fun c d h e1 e2 => by
    have e : a * b = 0 := by rw [Rat.mul_eq_zero, e1, e2]; exact h
    rw [e] at hQ
    exact ⟨by decide, rt_of hQ⟩
  split
  · rename_i h1
    split
    · rename_i h2
      obtain ⟨k1, k2⟩ := mk_parts ha hb
      refine ⟨mulOk_of ha.1 hb.1 (by omega), mulOk_of (by rw [nn]; exact ha.2) (by rw [nn]; exact hb.2) (by omega), k1, k2, rt_of ?_⟩
      rw [divInt_mul]
      exact hQ
    · rename_i h2
      exact z a 0 (.inr rfl) rfl (Rat.num_eq_zero.mp (by omega))
  · rename_i h1
    exact z 0 b (.inl rfl) (Rat.num_eq_zero.mp (by omega)) rfl
theorem hw__law_minus : ∀ ds St Q R, sp__law_minus ds St Q R → t__law_minus (endsD Q R) (startD ["x"] ds) St := by
  rintro ds S Q R ⟨a, rfl, hQ⟩
  simp only [t__law_minus, rsFor, rLc, wipeD, rsNext, rsSeq, rsDrop, rsRet, rsRetN, rsIf, rsAsg, rsPar, rsPar3, rsAug, rsSet, rsBreak, rsCont, rVar, rC, rBin, rTru, rTest, rChain, rNeg, rNot, rAnd, rOr, rIf, rAndV, rOrV, rNotV, rNil, rCons, rTup, rLst, rNone, rSome, rSl, rCall, rCallK, rBlt, rLRev, rMeth, rMeth0, rYes, wSeq, wEnum, wRev, wRng1, wRng2, addD_int, addD_tup, addD_str, addD_ref, subD_int, mulD_int, mulD_ref, mulD_tup, fdivD_int, modD_int, powD_int, cmpD_int, isD_non, isnD_non, iaddD_int, isNon_non, isNon_int, isNon_str, isNon_tup, isNon_fr, isNon_bl, eqD_int, neD_int, absD_int, intD_int, intD_bl, lenD_tup, lenD_ref, lenD_pl, listD_pl, tupleD_pl, seqW_pl, enumW_pl, revW_pl, slD_pl, isNon_pl, addD_pl, listD_tup, listD_ref, tupleD_tup, tupleD_ref, max2D_int, min2D_int, truD_int, truD_bl, truD_tup, truD_non, seqW_tup, seqW_ref, enumW_tup, enumW_ref, revW_tup, revW_ref, rngW1_int, rngW2_int, slD_tup, slD_ref, slD_frl, popD_ref, appendD_ref, extendD_ref, setD_ref, bindG_nm, bindG_tup, bindGs_nil, bindGs_cons, ixD_ref, startD, List.map_cons, List.map_nil, List.length_cons, List.length_nil, List.cons_append, List.nil_append, List.getElem?_cons_zero, List.getElem?_cons_succ, List.set_cons_zero, List.set_cons_succ, Option.some.injEq, exists_eq_left', exists_eq_left, Option.bind_some, Nat.reduceAdd, Nat.reduceSub, List.replicate_succ, List.replicate_zero, Dt.bl.injEq, Dt.int.injEq, decide_eq_true_eq, decide_eq_false_iff_not, Bool.false_eq_true, if_true, if_false, Bool.not_eq_true', Bool.not_true, Bool.not_false, bne_iff_ne, ne_eq, ixD_fr0, ixD_fr1, ixD_pair0, ixD_pair1, Dt.ref.injEq, List.cons.injEq, and_true, true_and, reduceIte, exists_eq, Nat.zero_add, Dt.tup.injEq, and_self, and_assoc, exists_and_left, fr_inj, pl_inj, ite_true, ite_false]
  refine ⟨by decide, rt_of ?_⟩
  have e : fr (-a) = .tup [.int (0 - a.num), .int (a.den : Int)] := by
    unfold fr
    rw [Rat.neg_num, Rat.neg_den, Int.zero_sub]
  rw [e] at hQ
  exact hQ
theorem atD_last {p : List Rat} (h : p ≠ []) : atD (p.map fr) (-1) = some (fr (p.getLast h)) := by
  have hl : 0 < p.length := List.length_pos_iff.mpr h
  have e : ixN (p.map fr).length (-1) = some (p.length - 1) := by
    unfold ixN
    rw [List.length_map, if_neg (by decide), if_pos (by omega)]
    congr 1
    omega
  unfold atD
  rw [e, Option.bind_some, List.getElem?_map, ← List.getLast?_eq_getElem?, List.getLast?_eq_some_getLast h]
  rfl
theorem trim_drop {p : List Rat} (h : p ≠ []) (hz : p.getLast h = 0) : trim p.dropLast = trim p := by
  have := List.dropLast_concat_getLast h
  rw [← this, trim_snoc, if_pos hz, List.dropLast_concat]
theorem trim_stop {p : List Rat} (h : p ≠ []) (hz : p.getLast h ≠ 0) : trim p = p := by
  refine trim_last ?_
  rw [List.getLast?_eq_some_getLast h]
  intro z
  exact hz (Option.some.inj z)
theorem loop_trim {S : Sto} {Q : QD} {R : XD → Sto → Prop} {A : Addr} {p : List Rat} (hA : S A = none) (hQ : Q (pl (trim p)) S) :
    rsWhile (rAnd (rTest (rBin neD (rVar 0) (rLst rNil))) (rTest (rBin eqD (rBin ixD (rBin ixD (rVar 0) (rNeg (rC (Dt.int 1)))) (rC (Dt.int 0))) (rC (Dt.int 0))))) (rsDrop (rMeth0 popD (rVar 0)))
      { nx := rsRet (rBlt tupleD (rCons (rVar 0) rNil)) (endsD Q R), rt := (endsD Q R).rt, bk := (endsD Q R).bk, ct := (endsD Q R).ct, ex := (endsD Q R).ex } [some (.ref A)] (put S A (.lst (p.map fr))) := by
  refine while_rule (fun m σ S' => ∃ q : List Rat, m = q.length ∧ S' A = some (.lst (q.map fr)) ∧ trim q = trim p ∧ Sub S S' ∧ σ = [some (.ref A)]) p.length ⟨p, rfl, put_same, rfl, Sub.put hA, rfl⟩ ?_
  rintro m σ S' ⟨q, rfl, hq, ht, hs, rfl⟩
  simp only [rsFor, rLc, wipeD, rsNext, rsSeq, rsDrop, rsRet, rsRetN, rsIf, rsAsg, rsPar, rsPar3, rsAug, rsSet, rsBreak, rsCont, rVar, rC, rBin, rTru, rTest, rChain, rNeg, rNot, rAnd, rOr, rIf, rAndV, rOrV, rNotV, rNil, rCons, rTup, rLst, rNone, rSome, rSl, rCall, rCallK, rBlt, rLRev, rMeth, rMeth0, rYes, wSeq, wEnum, wRev, wRng1, wRng2, addD_int, addD_tup, addD_str, addD_ref, subD_int, mulD_int, mulD_ref, mulD_tup, fdivD_int, modD_int, powD_int, cmpD_int, isD_non, isnD_non, iaddD_int, isNon_non, isNon_int, isNon_str, isNon_tup, isNon_fr, isNon_bl, eqD_int, neD_int, absD_int, intD_int, intD_bl, lenD_tup, lenD_ref, lenD_pl, listD_pl, tupleD_pl, seqW_pl, enumW_pl, revW_pl, slD_pl, isNon_pl, addD_pl, listD_tup, listD_ref, tupleD_tup, tupleD_ref, max2D_int, min2D_int, truD_int, truD_bl, truD_tup, truD_non, seqW_tup, seqW_ref, enumW_tup, enumW_ref, revW_tup, revW_ref, rngW1_int, rngW2_int, slD_tup, slD_ref, slD_frl, popD_ref, appendD_ref, extendD_ref, setD_ref, bindG_nm, bindG_tup, bindGs_nil, bindGs_cons, ixD_ref, startD, List.map_cons, List.map_nil, List.length_cons, List.length_nil, List.cons_append, List.nil_append, List.getElem?_cons_zero, List.getElem?_cons_succ, List.set_cons_zero, List.set_cons_succ, Option.some.injEq, exists_eq_left', exists_eq_left, Option.bind_some, Nat.reduceAdd, Nat.reduceSub, List.replicate_succ, List.replicate_zero, Dt.bl.injEq, Dt.int.injEq, decide_eq_true_eq, decide_eq_false_iff_not, Bool.false_eq_true, if_true, if_false, Bool.not_eq_true', Bool.not_true, Bool.not_false, bne_iff_ne, ne_eq, ixD_fr0, ixD_fr1, ixD_pair0, ixD_pair1, Dt.ref.injEq, List.cons.injEq, and_true, true_and, reduceIte, exists_eq, Nat.zero_add, Dt.tup.injEq, and_self, and_assoc, exists_and_left, fr_inj, pl_inj, ite_true, ite_false]
  refine ⟨by decide, fun b hb => ?_⟩
  have hba : b ≠ A := fun e => by rw [e, hq] at hb; cases hb
  have l1 : lstOf (put S' b (.lst [])) A = some (q.map fr) := by rw [lst_ne hba.symm]; exact lst_of hq
  have l2 : put S' b (.lst []) A = some (.lst (q.map fr)) := by rw [put_ne hba.symm]; exact hq
  refine neD_of (eqR_frs_nil l1 lst_same) ?_
  have fin : trim q = q → (endsD Q R).rt (Dt.tup (q.map fr)) (put S' b (.lst [])) := fun e => by
    refine rt_sub ?_ (hs.trans (Sub.put hb))
    rw [← e, ht]
    exact hQ
  simp only [rsFor, rLc, wipeD, rsNext, rsSeq, rsDrop, rsRet, rsRetN, rsIf, rsAsg, rsPar, rsPar3, rsAug, rsSet, rsBreak, rsCont, rVar, rC, rBin, rTru, rTest, rChain, rNeg, rNot, rAnd, rOr, rIf, rAndV, rOrV, rNotV, rNil, rCons, rTup, rLst, rNone, rSome, rSl, rCall, rCallK, rBlt, rLRev, rMeth, rMeth0, rYes, wSeq, wEnum, wRev, wRng1, wRng2, addD_int, addD_tup, addD_str, addD_ref, subD_int, mulD_int, mulD_ref, mulD_tup, fdivD_int, modD_int, powD_int, cmpD_int, isD_non, isnD_non, iaddD_int, isNon_non, isNon_int, isNon_str, isNon_tup, isNon_fr, isNon_bl, eqD_int, neD_int, absD_int, intD_int, intD_bl, lenD_tup, lenD_ref, lenD_pl, listD_pl, tupleD_pl, seqW_pl, enumW_pl, revW_pl, slD_pl, isNon_pl, addD_pl, listD_tup, listD_ref, tupleD_tup, tupleD_ref, max2D_int, min2D_int, truD_int, truD_bl, truD_tup, truD_non, seqW_tup, seqW_ref, enumW_tup, enumW_ref, revW_tup, revW_ref, rngW1_int, rngW2_int, slD_tup, slD_ref, slD_frl, popD_ref, appendD_ref, extendD_ref, setD_ref, bindG_nm, bindG_tup, bindGs_nil, bindGs_cons, ixD_ref, startD, List.map_cons, List.map_nil, List.length_cons, List.length_nil, List.cons_append, List.nil_append, List.getElem?_cons_zero, List.getElem?_cons_succ, List.set_cons_zero, List.set_cons_succ, Option.some.injEq, exists_eq_left', exists_eq_left, Option.bind_some, Nat.reduceAdd, Nat.reduceSub, List.replicate_succ, List.replicate_zero, Dt.bl.injEq, Dt.int.injEq, decide_eq_true_eq, decide_eq_false_iff_not, Bool.false_eq_true, if_true, if_false, Bool.not_eq_true', Bool.not_true, Bool.not_false, bne_iff_ne, ne_eq, ixD_fr0, ixD_fr1, ixD_pair0, ixD_pair1, Dt.ref.injEq, List.cons.injEq, and_true, true_and, reduceIte, exists_eq, Nat.zero_add, Dt.tup.injEq, and_self, and_assoc, exists_and_left, fr_inj, pl_inj, ite_true, ite_false, l1]
  split
  · rename_i hne
    rw [atD_last hne]
    simp only [rsFor, rLc, wipeD, rsNext, rsSeq, rsDrop, rsRet, rsRetN, rsIf, rsAsg, rsPar, rsPar3, rsAug, rsSet, rsBreak, rsCont, rVar, rC, rBin, rTru, rTest, rChain, rNeg, rNot, rAnd, rOr, rIf, rAndV, rOrV, rNotV, rNil, rCons, rTup, rLst, rNone, rSome, rSl, rCall, rCallK, rBlt, rLRev, rMeth, rMeth0, rYes, wSeq, wEnum, wRev, wRng1, wRng2, addD_int, addD_tup, addD_str, addD_ref, subD_int, mulD_int, mulD_ref, mulD_tup, fdivD_int, modD_int, powD_int, cmpD_int, isD_non, isnD_non, iaddD_int, isNon_non, isNon_int, isNon_str, isNon_tup, isNon_fr, isNon_bl, eqD_int, neD_int, absD_int, intD_int, intD_bl, lenD_tup, lenD_ref, lenD_pl, listD_pl, tupleD_pl, seqW_pl, enumW_pl, revW_pl, slD_pl, isNon_pl, addD_pl, listD_tup, listD_ref, tupleD_tup, tupleD_ref, max2D_int, min2D_int, truD_int, truD_bl, truD_tup, truD_non, seqW_tup, seqW_ref, enumW_tup, enumW_ref, revW_tup, revW_ref, rngW1_int, rngW2_int, slD_tup, slD_ref, slD_frl, popD_ref, appendD_ref, extendD_ref, setD_ref, bindG_nm, bindG_tup, bindGs_nil, bindGs_cons, ixD_ref, startD, List.map_cons, List.map_nil, List.length_cons, List.length_nil, List.cons_append, List.nil_append, List.getElem?_cons_zero, List.getElem?_cons_succ, List.set_cons_zero, List.set_cons_succ, Option.some.injEq, exists_eq_left', exists_eq_left, Option.bind_some, Nat.reduceAdd, Nat.reduceSub, List.replicate_succ, List.replicate_zero, Dt.bl.injEq, Dt.int.injEq, decide_eq_true_eq, decide_eq_false_iff_not, Bool.false_eq_true, if_true, if_false, Bool.not_eq_true', Bool.not_true, Bool.not_false, bne_iff_ne, ne_eq, ixD_fr0, ixD_fr1, ixD_pair0, ixD_pair1, Dt.ref.injEq, List.cons.injEq, and_true, true_and, reduceIte, exists_eq, Nat.zero_add, Dt.tup.injEq, and_self, and_assoc, exists_and_left, fr_inj, pl_inj, ite_true, ite_false, l1]
    split
    · rename_i hz
      have hz : q.getLast hne = 0 := Rat.num_eq_zero.mp hz
      refine ⟨_, fun _ _ h => h, ⟨_, l2⟩, _, l2, fr (q.getLast hne), ?_, q.dropLast.length, ?_, q.dropLast, rfl, ?_, ?_, ?_, rfl⟩
      · rw [List.length_map, List.getElem?_map, ← List.getLast?_eq_getElem?, List.getLast?_eq_some_getLast hne]; rfl
      · rw [List.length_dropLast]
        have := List.length_pos_iff.mpr hne
        omega
      · rw [put_same, List.map_dropLast]
      · rw [trim_drop hne hz, ht]
      · refine fun c o h => ?_
        have hc : c ≠ A := fun e => by rw [e, hA] at h; cases h
        rw [put_ne hc]
        exact (hs.trans (Sub.put hb)) c o h
    · rename_i hz
      exact fin (trim_stop hne fun z => hz (Rat.num_eq_zero.mpr z))
  · rename_i hne
    have e : q = [] := by simpa using hne
    subst e
    exact fin rfl
theorem hw__law_trim : ∀ ds St Q R, sp__law_trim ds St Q R → t__law_trim (endsD Q R) (startD ["row"] ds) St := by
  rintro ds S Q R ⟨x, p, rfl, h, hQ⟩
  rcases h with rfl | ⟨a, rfl, e⟩
  · simp only [t__law_trim, rsFor, rLc, wipeD, rsNext, rsSeq, rsDrop, rsRet, rsRetN, rsIf, rsAsg, rsPar, rsPar3, rsAug, rsSet, rsBreak, rsCont, rVar, rC, rBin, rTru, rTest, rChain, rNeg, rNot, rAnd, rOr, rIf, rAndV, rOrV, rNotV, rNil, rCons, rTup, rLst, rNone, rSome, rSl, rCall, rCallK, rBlt, rLRev, rMeth, rMeth0, rYes, wSeq, wEnum, wRev, wRng1, wRng2, addD_int, addD_tup, addD_str, addD_ref, subD_int, mulD_int, mulD_ref, mulD_tup, fdivD_int, modD_int, powD_int, cmpD_int, isD_non, isnD_non, iaddD_int, isNon_non, isNon_int, isNon_str, isNon_tup, isNon_fr, isNon_bl, eqD_int, neD_int, absD_int, intD_int, intD_bl, lenD_tup, lenD_ref, lenD_pl, listD_pl, tupleD_pl, seqW_pl, enumW_pl, revW_pl, slD_pl, isNon_pl, addD_pl, listD_tup, listD_ref, tupleD_tup, tupleD_ref, max2D_int, min2D_int, truD_int, truD_bl, truD_tup, truD_non, seqW_tup, seqW_ref, enumW_tup, enumW_ref, revW_tup, revW_ref, rngW1_int, rngW2_int, slD_tup, slD_ref, slD_frl, popD_ref, appendD_ref, extendD_ref, setD_ref, bindG_nm, bindG_tup, bindGs_nil, bindGs_cons, ixD_ref, startD, List.map_cons, List.map_nil, List.length_cons, List.length_nil, List.cons_append, List.nil_append, List.getElem?_cons_zero, List.getElem?_cons_succ, List.set_cons_zero, List.set_cons_succ, Option.some.injEq, exists_eq_left', exists_eq_left, Option.bind_some, Nat.reduceAdd, Nat.reduceSub, List.replicate_succ, List.replicate_zero, Dt.bl.injEq, Dt.int.injEq, decide_eq_true_eq, decide_eq_false_iff_not, Bool.false_eq_true, if_true, if_false, Bool.not_eq_true', Bool.not_true, Bool.not_false, bne_iff_ne, ne_eq, ixD_fr0, ixD_fr1, ixD_pair0, ixD_pair1, Dt.ref.injEq, List.cons.injEq, and_true, true_and, reduceIte, exists_eq, Nat.zero_add, Dt.tup.injEq, and_self, and_assoc, exists_and_left, fr_inj, pl_inj, ite_true, ite_false]
    exact fun A hA => loop_trim hA hQ
  · simp only [t__law_trim, rsFor, rLc, wipeD, rsNext, rsSeq, rsDrop, rsRet, rsRetN, rsIf, rsAsg, rsPar, rsPar3, rsAug, rsSet, rsBreak, rsCont, rVar, rC, rBin, rTru, rTest, rChain, rNeg, rNot, rAnd, rOr, rIf, rAndV, rOrV, rNotV, rNil, rCons, rTup, rLst, rNone, rSome, rSl, rCall, rCallK, rBlt, rLRev, rMeth, rMeth0, rYes, wSeq, wEnum, wRev, wRng1, wRng2, addD_int, addD_tup, addD_str, addD_ref, subD_int, mulD_int, mulD_ref, mulD_tup, fdivD_int, modD_int, powD_int, cmpD_int, isD_non, isnD_non, iaddD_int, isNon_non, isNon_int, isNon_str, isNon_tup, isNon_fr, isNon_bl, eqD_int, neD_int, absD_int, intD_int, intD_bl, lenD_tup, lenD_ref, lenD_pl, listD_pl, tupleD_pl, seqW_pl, enumW_pl, revW_pl, slD_pl, isNon_pl, addD_pl, listD_tup, listD_ref, tupleD_tup, tupleD_ref, max2D_int, min2D_int, truD_int, truD_bl, truD_tup, truD_non, seqW_tup, seqW_ref, enumW_tup, enumW_ref, revW_tup, revW_ref, rngW1_int, rngW2_int, slD_tup, slD_ref, slD_frl, popD_ref, appendD_ref, extendD_ref, setD_ref, bindG_nm, bindG_tup, bindGs_nil, bindGs_cons, ixD_ref, startD, List.map_cons, List.map_nil, List.length_cons, List.length_nil, List.cons_append, List.nil_append, List.getElem?_cons_zero, List.getElem?_cons_succ, List.set_cons_zero, List.set_cons_succ, Option.some.injEq, exists_eq_left', exists_eq_left, Option.bind_some, Nat.reduceAdd, Nat.reduceSub, List.replicate_succ, List.replicate_zero, Dt.bl.injEq, Dt.int.injEq, decide_eq_true_eq, decide_eq_false_iff_not, Bool.false_eq_true, if_true, if_false, Bool.not_eq_true', Bool.not_true, Bool.not_false, bne_iff_ne, ne_eq, ixD_fr0, ixD_fr1, ixD_pair0, ixD_pair1, Dt.ref.injEq, List.cons.injEq, and_true, true_and, reduceIte, exists_eq, Nat.zero_add, Dt.tup.injEq, and_self, and_assoc, exists_and_left, fr_inj, pl_inj, ite_true, ite_false, e]
    exact fun A hA => loop_trim hA hQ
theorem ev_snoc (x c : Rat) : ∀ f : List Rat, ev (f ++ [c]) x = ev f x + pw x f.length * c
  | [] => by simp only [List.nil_append, ev, List.length_nil, pw]; grind
  | a :: f => by simp only [List.cons_append, ev, List.length_cons, pw, ev_snoc x c f]; grind
theorem rngD_eq {lo hi : Int} : rngD lo hi = (List.range' 0 (hi - lo).toNat).map fun i : Nat => Dt.int (lo + i) := by
  unfold rngD
  rw [List.range_eq_range']
def tb_pp : RS := rsSeq (rsAsg (rIf (rTest (rBin (cmpD fun i j => decide (i < j)) (rVar 3) (rBlt lenD (rCons (rVar 0) rNil)))) (rBin ixD (rVar 0) (rVar 3)) (rTup (rCons (rC (Dt.int 0)) (rCons (rC (Dt.int 1)) rNil)))) (Tg.nm 4)) (rsDrop (rMeth appendD (rVar 2) (rCons (rIf (rTest (rBin (cmpD fun i j => decide (i < j)) (rVar 3) (rBlt lenD (rCons (rVar 1) rNil)))) (rCall sp_plus (rCons (rVar 4) (rCons (rBin ixD (rVar 1) (rVar 3)) rNil))) (rVar 4)) rNil)))
theorem ixD_pl {S : Sto} {Q : QD} {p : List Rat} {k : Nat} (h : k < p.length) : ixD (pl p) (.int (k : Int)) S Q ↔ Q (fr p[k]) S := by
  simp only [pl, ixD_tup, atD_frs h, Option.some.injEq, exists_eq_left']
theorem loop_pp {D : EndsD} {F : Addr} {p q : List Rat} {S0 : Sto} {tb : RS} (htb : tb = tb_pp) (hp : ∀ a ∈ p, Sz 4000 a) (hq : ∀ a ∈ q, Sz 4000 a) (hl : p.length ≤ 1000 ∧ q.length ≤ 1000)
    (hD : ∀ x3 x4 g, (∀ x, ev g x = ev p x + ev q x) → D.nx [some (pl p), some (pl q), some (.ref F), x3, x4] (put S0 F (.lst (g.map fr)))) :
    ∀ (m k : Nat) (f : List Rat) (x3 x4 : Option Dt), k + m = max p.length q.length → f.length = k → (∀ x, ev f x + pw x k * (ev (p.drop k) x + ev (q.drop k) x) = ev p x + ev q x) →
      forGo (.nm 3) tb D (fun _ => True) ((List.range' k m).map fun i : Nat => Dt.int (0 + i)) [some (pl p), some (pl q), some (.ref F), x3, x4] (put S0 F (.lst (f.map fr)))
  | 0, k, f, x3, x4, hk, hf, hT => ⟨trivial, hD _ _ f fun x => by
    have := hT x
    rw [List.drop_eq_nil_of_le (by omega), List.drop_eq_nil_of_le (by omega)] at this
    simp only [ev] at this
    rw [← this]; grind⟩
  | m + 1, k, f, x3, x4, hk, hf, hT => by
    refine ⟨trivial, _, bindG_nm, ?_⟩
    subst htb
    have sl : sizeLine = 16777216 := by decide
    have e0 : (0 : Int) + (k : Int) = (k : Int) := by omega
    have step : ∀ c : Rat, (∀ x, ev (p.drop k) x + ev (q.drop k) x = c + x * (ev (p.drop (k + 1)) x + ev (q.drop (k + 1)) x)) →
        forGo (.nm 3) tb_pp D (fun _ => True) ((List.range' (k + 1) m).map fun i : Nat => Dt.int (0 + i)) [some (pl p), some (pl q), some (.ref F), some (.int ((0 : Int) + (k : Int))), some (if h : k < p.length then fr p[k] else fr 0)] (put S0 F (.lst ((f ++ [c]).map fr))) := fun c hc =>
      loop_pp rfl hp hq hl hD m (k + 1) (f ++ [c]) _ _ (by omega) (by rw [List.length_append, hf]; rfl) (fun x => by
        have h1 := hT x
        rw [hc x] at h1
        rw [ev_snoc, hf, ← h1]; simp only [pw]; grind)
    have dp : ∀ (r : List Rat) (h : k < r.length), r.drop k = r[k] :: r.drop (k + 1) := fun r h => List.drop_eq_getElem_cons h
    have dn : ∀ r : List Rat, ¬ k < r.length → r.drop k = [] ∧ r.drop (k + 1) = [] := fun r h => ⟨List.drop_eq_nil_of_le (by omega), List.drop_eq_nil_of_le (by omega)⟩
    have app : ∀ (c : Rat), f.map fr ++ [fr c] = (f ++ [c]).map fr := fun c => by simp
    simp only [tb_pp, rsFor, rLc, wipeD, rsNext, rsSeq, rsDrop, rsRet, rsRetN, rsIf, rsAsg, rsPar, rsPar3, rsAug, rsSet, rsBreak, rsCont, rVar, rC, rBin, rTru, rTest, rChain, rNeg, rNot, rAnd, rOr, rIf, rAndV, rOrV, rNotV, rNil, rCons, rTup, rLst, rNone, rSome, rSl, rCall, rCallK, rBlt, rLRev, rMeth, rMeth0, rYes, wSeq, wEnum, wRev, wRng1, wRng2, addD_int, addD_tup, addD_str, addD_ref, subD_int, mulD_int, mulD_ref, mulD_tup, fdivD_int, modD_int, powD_int, cmpD_int, isD_non, isnD_non, iaddD_int, isNon_non, isNon_int, isNon_str, isNon_tup, isNon_fr, isNon_bl, eqD_int, neD_int, absD_int, intD_int, intD_bl, lenD_tup, lenD_ref, lenD_pl, listD_pl, tupleD_pl, seqW_pl, enumW_pl, revW_pl, slD_pl, isNon_pl, addD_pl, listD_tup, listD_ref, tupleD_tup, tupleD_ref, max2D_int, min2D_int, truD_int, truD_bl, truD_tup, truD_non, seqW_tup, seqW_ref, enumW_tup, enumW_ref, revW_tup, revW_ref, rngW1_int, rngW2_int, slD_tup, slD_ref, slD_frl, popD_ref, appendD_ref, extendD_ref, setD_ref, bindG_nm, bindG_tup, bindGs_nil, bindGs_cons, ixD_ref, startD, List.map_cons, List.map_nil, List.length_cons, List.length_nil, List.cons_append, List.nil_append, List.getElem?_cons_zero, List.getElem?_cons_succ, List.set_cons_zero, List.set_cons_succ, Option.some.injEq, exists_eq_left', exists_eq_left, Option.bind_some, Nat.reduceAdd, Nat.reduceSub, List.replicate_succ, List.replicate_zero, Dt.bl.injEq, Dt.int.injEq, decide_eq_true_eq, decide_eq_false_iff_not, Bool.false_eq_true, if_true, if_false, Bool.not_eq_true', Bool.not_true, Bool.not_false, bne_iff_ne, ne_eq, ixD_fr0, ixD_fr1, ixD_pair0, ixD_pair1, Dt.ref.injEq, List.cons.injEq, and_true, true_and, reduceIte, exists_eq, Nat.zero_add, Dt.tup.injEq, and_self, and_assoc, exists_and_left, fr_inj, pl_inj, ite_true, ite_false, sp_plus]
    rw [e0]
    by_cases h1 : k < p.length
    · rw [if_pos (by omega), ixD_pl h1]
      refine ⟨⟨_, put_same⟩, ?_⟩
      by_cases h2 : k < q.length
      · rw [if_pos (by omega), ixD_pl h2]
        refine ⟨p[k], rfl, q[k], rfl, hp _ (List.getElem_mem h1), hq _ (List.getElem_mem h2), _, put_same, by rw [List.length_map]; omega, ?_⟩
        have s := step (p[k] + q[k]) fun x => by rw [dp p h1, dp q h2]; simp only [ev]; grind
        rw [dif_pos h1, e0] at s
        rw [put_put, app]
        exact s
      · rw [if_neg (by omega)]
        refine ⟨_, put_same, by rw [List.length_map]; omega, ?_⟩
        have s := step (p[k]) fun x => by rw [dp p h1, (dn q h2).1, (dn q h2).2]; simp only [ev]; grind
        rw [dif_pos h1, e0] at s
        rw [put_put, app]
        exact s
    · rw [if_neg (by omega)]
      have h2 : k < q.length := by omega
      refine ⟨by decide, ⟨_, put_same⟩, ?_⟩
      rw [if_pos (by omega), ixD_pl h2]
      refine ⟨0, zero_fr, q[k], rfl, sz_zero (by decide), hq _ (List.getElem_mem h2), _, put_same, by rw [List.length_map]; omega, ?_⟩
      have s := step (0 + q[k]) fun x => by rw [dp q h2, (dn p h1).1, (dn p h1).2]; simp only [ev]; grind
      rw [dif_neg h1, e0] at s
      rw [put_put, app]
      exact s
theorem hw__law_poly_plus : ∀ ds St Q R, sp__law_poly_plus ds St Q R → t__law_poly_plus (endsD Q R) (startD ["one", "other", "found", "k", "x"] ds) St := by
  rintro ds S Q R ⟨p, q, rfl, ⟨hp, hq, l1, l2⟩, hQ⟩
  simp only [t__law_poly_plus, rsFor, rLc, wipeD, rsNext, rsSeq, rsDrop, rsRet, rsRetN, rsIf, rsAsg, rsPar, rsPar3, rsAug, rsSet, rsBreak, rsCont, rVar, rC, rBin, rTru, rTest, rChain, rNeg, rNot, rAnd, rOr, rIf, rAndV, rOrV, rNotV, rNil, rCons, rTup, rLst, rNone, rSome, rSl, rCall, rCallK, rBlt, rLRev, rMeth, rMeth0, rYes, wSeq, wEnum, wRev, wRng1, wRng2, addD_int, addD_tup, addD_str, addD_ref, subD_int, mulD_int, mulD_ref, mulD_tup, fdivD_int, modD_int, powD_int, cmpD_int, isD_non, isnD_non, iaddD_int, isNon_non, isNon_int, isNon_str, isNon_tup, isNon_fr, isNon_bl, eqD_int, neD_int, absD_int, intD_int, intD_bl, lenD_tup, lenD_ref, lenD_pl, listD_pl, tupleD_pl, seqW_pl, enumW_pl, revW_pl, slD_pl, isNon_pl, addD_pl, listD_tup, listD_ref, tupleD_tup, tupleD_ref, max2D_int, min2D_int, truD_int, truD_bl, truD_tup, truD_non, seqW_tup, seqW_ref, enumW_tup, enumW_ref, revW_tup, revW_ref, rngW1_int, rngW2_int, slD_tup, slD_ref, slD_frl, popD_ref, appendD_ref, extendD_ref, setD_ref, bindG_nm, bindG_tup, bindGs_nil, bindGs_cons, ixD_ref, startD, List.map_cons, List.map_nil, List.length_cons, List.length_nil, List.cons_append, List.nil_append, List.getElem?_cons_zero, List.getElem?_cons_succ, List.set_cons_zero, List.set_cons_succ, Option.some.injEq, exists_eq_left', exists_eq_left, Option.bind_some, Nat.reduceAdd, Nat.reduceSub, List.replicate_succ, List.replicate_zero, Dt.bl.injEq, Dt.int.injEq, decide_eq_true_eq, decide_eq_false_iff_not, Bool.false_eq_true, if_true, if_false, Bool.not_eq_true', Bool.not_true, Bool.not_false, bne_iff_ne, ne_eq, ixD_fr0, ixD_fr1, ixD_pair0, ixD_pair1, Dt.ref.injEq, List.cons.injEq, and_true, true_and, reduceIte, exists_eq, Nat.zero_add, Dt.tup.injEq, and_self, and_assoc, exists_and_left, fr_inj, pl_inj, ite_true, ite_false]
  refine ⟨by decide, fun F hF => ⟨?_, ?_⟩⟩
  · unfold smallI; split <;> omega
  · rw [rngD_eq]
    have e : ((if ((q.length : Nat) : Int) > (p.length : Nat) then ((q.length : Nat) : Int) else (p.length : Nat)) - 0).toNat = max p.length q.length := by
      split <;> omega
    rw [e]
    refine loop_pp (F := F) rfl hp hq ⟨l1, l2⟩ (fun x3 x4 g hg => ?_) _ 0 [] _ _ (by omega) rfl (fun x => by simp only [ev, pw, List.drop_zero]; grind)
    simp only [sp__law_trim, rsFor, rLc, wipeD, rsNext, rsSeq, rsDrop, rsRet, rsRetN, rsIf, rsAsg, rsPar, rsPar3, rsAug, rsSet, rsBreak, rsCont, rVar, rC, rBin, rTru, rTest, rChain, rNeg, rNot, rAnd, rOr, rIf, rAndV, rOrV, rNotV, rNil, rCons, rTup, rLst, rNone, rSome, rSl, rCall, rCallK, rBlt, rLRev, rMeth, rMeth0, rYes, wSeq, wEnum, wRev, wRng1, wRng2, addD_int, addD_tup, addD_str, addD_ref, subD_int, mulD_int, mulD_ref, mulD_tup, fdivD_int, modD_int, powD_int, cmpD_int, isD_non, isnD_non, iaddD_int, isNon_non, isNon_int, isNon_str, isNon_tup, isNon_fr, isNon_bl, eqD_int, neD_int, absD_int, intD_int, intD_bl, lenD_tup, lenD_ref, lenD_pl, listD_pl, tupleD_pl, seqW_pl, enumW_pl, revW_pl, slD_pl, isNon_pl, addD_pl, listD_tup, listD_ref, tupleD_tup, tupleD_ref, max2D_int, min2D_int, truD_int, truD_bl, truD_tup, truD_non, seqW_tup, seqW_ref, enumW_tup, enumW_ref, revW_tup, revW_ref, rngW1_int, rngW2_int, slD_tup, slD_ref, slD_frl, popD_ref, appendD_ref, extendD_ref, setD_ref, bindG_nm, bindG_tup, bindGs_nil, bindGs_cons, ixD_ref, startD, List.map_cons, List.map_nil, List.length_cons, List.length_nil, List.cons_append, List.nil_append, List.getElem?_cons_zero, List.getElem?_cons_succ, List.set_cons_zero, List.set_cons_succ, Option.some.injEq, exists_eq_left', exists_eq_left, Option.bind_some, Nat.reduceAdd, Nat.reduceSub, List.replicate_succ, List.replicate_zero, Dt.bl.injEq, Dt.int.injEq, decide_eq_true_eq, decide_eq_false_iff_not, Bool.false_eq_true, if_true, if_false, Bool.not_eq_true', Bool.not_true, Bool.not_false, bne_iff_ne, ne_eq, ixD_fr0, ixD_fr1, ixD_pair0, ixD_pair1, Dt.ref.injEq, List.cons.injEq, and_true, true_and, reduceIte, exists_eq, Nat.zero_add, Dt.tup.injEq, and_self, and_assoc, exists_and_left, fr_inj, pl_inj, ite_true, ite_false]
    refine ⟨g, .inr ⟨F, rfl, lst_same⟩, rt_sub ?_ (Sub.put hF)⟩
    have e : trim g = pAdd p q := trim_eq fun x => by rw [hg, ev_addR]
    rw [e]
    exact hQ
theorem len__law_poly_plus : ∀ ds S Q R, sp__law_poly_plus ds S Q R → ds.length = 2 := by rintro ds S Q R ⟨p, q, rfl, _⟩; rfl
theorem hw__law_poly_scaled : ∀ ds St Q R, sp__law_poly_scaled ds St Q R → t__law_poly_scaled (endsD Q R) (startD ["f", "poly", "x"] ds) St := by
  rintro ds S Q R ⟨f, p, rfl, ⟨hf, hp, hl⟩, hQ⟩
  simp only [t__law_poly_scaled, rsFor, rLc, wipeD, rsNext, rsSeq, rsDrop, rsRet, rsRetN, rsIf, rsAsg, rsPar, rsPar3, rsAug, rsSet, rsBreak, rsCont, rVar, rC, rBin, rTru, rTest, rChain, rNeg, rNot, rAnd, rOr, rIf, rAndV, rOrV, rNotV, rNil, rCons, rTup, rLst, rNone, rSome, rSl, rCall, rCallK, rBlt, rLRev, rMeth, rMeth0, rYes, wSeq, wEnum, wRev, wRng1, wRng2, addD_int, addD_tup, addD_str, addD_ref, subD_int, mulD_int, mulD_ref, mulD_tup, fdivD_int, modD_int, powD_int, cmpD_int, isD_non, isnD_non, iaddD_int, isNon_non, isNon_int, isNon_str, isNon_tup, isNon_fr, isNon_bl, eqD_int, neD_int, absD_int, intD_int, intD_bl, lenD_tup, lenD_ref, lenD_pl, listD_pl, tupleD_pl, seqW_pl, enumW_pl, revW_pl, slD_pl, isNon_pl, addD_pl, listD_tup, listD_ref, tupleD_tup, tupleD_ref, max2D_int, min2D_int, truD_int, truD_bl, truD_tup, truD_non, seqW_tup, seqW_ref, enumW_tup, enumW_ref, revW_tup, revW_ref, rngW1_int, rngW2_int, slD_tup, slD_ref, slD_frl, popD_ref, appendD_ref, extendD_ref, setD_ref, bindG_nm, bindG_tup, bindGs_nil, bindGs_cons, ixD_ref, startD, List.map_cons, List.map_nil, List.length_cons, List.length_nil, List.cons_append, List.nil_append, List.getElem?_cons_zero, List.getElem?_cons_succ, List.set_cons_zero, List.set_cons_succ, Option.some.injEq, exists_eq_left', exists_eq_left, Option.bind_some, Nat.reduceAdd, Nat.reduceSub, List.replicate_succ, List.replicate_zero, Dt.bl.injEq, Dt.int.injEq, decide_eq_true_eq, decide_eq_false_iff_not, Bool.false_eq_true, if_true, if_false, Bool.not_eq_true', Bool.not_true, Bool.not_false, bne_iff_ne, ne_eq, ixD_fr0, ixD_fr1, ixD_pair0, ixD_pair1, Dt.ref.injEq, List.cons.injEq, and_true, true_and, reduceIte, exists_eq, Nat.zero_add, Dt.tup.injEq, and_self, and_assoc, exists_and_left, fr_inj, pl_inj, ite_true, ite_false]
  intro a ha
  refine lcGo_pure (scD f) (p.map fr) [] _ put_same (fun _ => trivial) ?_ (fun x hx => ?_) ?_
  · have : sizeLine = 16777216 := by decide
    simp only [List.length_nil, List.length_map]; omega
  · obtain ⟨q, hq, rfl⟩ := List.mem_map.mp hx
    refine ⟨_, bindG_nm, fun S' Q' hq' => ?_⟩
    simp only [rsFor, rLc, wipeD, rsNext, rsSeq, rsDrop, rsRet, rsRetN, rsIf, rsAsg, rsPar, rsPar3, rsAug, rsSet, rsBreak, rsCont, rVar, rC, rBin, rTru, rTest, rChain, rNeg, rNot, rAnd, rOr, rIf, rAndV, rOrV, rNotV, rNil, rCons, rTup, rLst, rNone, rSome, rSl, rCall, rCallK, rBlt, rLRev, rMeth, rMeth0, rYes, wSeq, wEnum, wRev, wRng1, wRng2, addD_int, addD_tup, addD_str, addD_ref, subD_int, mulD_int, mulD_ref, mulD_tup, fdivD_int, modD_int, powD_int, cmpD_int, isD_non, isnD_non, iaddD_int, isNon_non, isNon_int, isNon_str, isNon_tup, isNon_fr, isNon_bl, eqD_int, neD_int, absD_int, intD_int, intD_bl, lenD_tup, lenD_ref, lenD_pl, listD_pl, tupleD_pl, seqW_pl, enumW_pl, revW_pl, slD_pl, isNon_pl, addD_pl, listD_tup, listD_ref, tupleD_tup, tupleD_ref, max2D_int, min2D_int, truD_int, truD_bl, truD_tup, truD_non, seqW_tup, seqW_ref, enumW_tup, enumW_ref, revW_tup, revW_ref, rngW1_int, rngW2_int, slD_tup, slD_ref, slD_frl, popD_ref, appendD_ref, extendD_ref, setD_ref, bindG_nm, bindG_tup, bindGs_nil, bindGs_cons, ixD_ref, startD, List.map_cons, List.map_nil, List.length_cons, List.length_nil, List.cons_append, List.nil_append, List.getElem?_cons_zero, List.getElem?_cons_succ, List.set_cons_zero, List.set_cons_succ, Option.some.injEq, exists_eq_left', exists_eq_left, Option.bind_some, Nat.reduceAdd, Nat.reduceSub, List.replicate_succ, List.replicate_zero, Dt.bl.injEq, Dt.int.injEq, decide_eq_true_eq, decide_eq_false_iff_not, Bool.false_eq_true, if_true, if_false, Bool.not_eq_true', Bool.not_true, Bool.not_false, bne_iff_ne, ne_eq, ixD_fr0, ixD_fr1, ixD_pair0, ixD_pair1, Dt.ref.injEq, List.cons.injEq, and_true, true_and, reduceIte, exists_eq, Nat.zero_add, Dt.tup.injEq, and_self, and_assoc, exists_and_left, fr_inj, pl_inj, ite_true, ite_false, sp__law_times, sp_times]
    refine ⟨sz_mono hf (by omega), sz_mono (hp q hq) (by omega), ?_⟩
    have : fr (f * Rat.divInt q.num (q.den : Int)) = fr (f * q) := by rw [Rat.num_divInt_den]
    rw [← this]
    exact hq'
  · rw [put_put, frs_scale, List.nil_append]
    simp only [rsFor, rLc, wipeD, rsNext, rsSeq, rsDrop, rsRet, rsRetN, rsIf, rsAsg, rsPar, rsPar3, rsAug, rsSet, rsBreak, rsCont, rVar, rC, rBin, rTru, rTest, rChain, rNeg, rNot, rAnd, rOr, rIf, rAndV, rOrV, rNotV, rNil, rCons, rTup, rLst, rNone, rSome, rSl, rCall, rCallK, rBlt, rLRev, rMeth, rMeth0, rYes, wSeq, wEnum, wRev, wRng1, wRng2, addD_int, addD_tup, addD_str, addD_ref, subD_int, mulD_int, mulD_ref, mulD_tup, fdivD_int, modD_int, powD_int, cmpD_int, isD_non, isnD_non, iaddD_int, isNon_non, isNon_int, isNon_str, isNon_tup, isNon_fr, isNon_bl, eqD_int, neD_int, absD_int, intD_int, intD_bl, lenD_tup, lenD_ref, lenD_pl, listD_pl, tupleD_pl, seqW_pl, enumW_pl, revW_pl, slD_pl, isNon_pl, addD_pl, listD_tup, listD_ref, tupleD_tup, tupleD_ref, max2D_int, min2D_int, truD_int, truD_bl, truD_tup, truD_non, seqW_tup, seqW_ref, enumW_tup, enumW_ref, revW_tup, revW_ref, rngW1_int, rngW2_int, slD_tup, slD_ref, slD_frl, popD_ref, appendD_ref, extendD_ref, setD_ref, bindG_nm, bindG_tup, bindGs_nil, bindGs_cons, ixD_ref, startD, List.map_cons, List.map_nil, List.length_cons, List.length_nil, List.cons_append, List.nil_append, List.getElem?_cons_zero, List.getElem?_cons_succ, List.set_cons_zero, List.set_cons_succ, Option.some.injEq, exists_eq_left', exists_eq_left, Option.bind_some, Nat.reduceAdd, Nat.reduceSub, List.replicate_succ, List.replicate_zero, Dt.bl.injEq, Dt.int.injEq, decide_eq_true_eq, decide_eq_false_iff_not, Bool.false_eq_true, if_true, if_false, Bool.not_eq_true', Bool.not_true, Bool.not_false, bne_iff_ne, ne_eq, ixD_fr0, ixD_fr1, ixD_pair0, ixD_pair1, Dt.ref.injEq, List.cons.injEq, and_true, true_and, reduceIte, exists_eq, Nat.zero_add, Dt.tup.injEq, and_self, and_assoc, exists_and_left, fr_inj, pl_inj, ite_true, ite_false, sp__law_trim]
    exact ⟨p.map (f * ·), .inr ⟨a, rfl, lst_same⟩, rt_sub hQ (Sub.put ha)⟩
theorem len__law_poly_scaled : ∀ ds S Q R, sp__law_poly_scaled ds S Q R → ds.length = 2 := by rintro ds S Q R ⟨p, q, rfl, _⟩; rfl
theorem hw__law_poly_times : ∀ ds St Q R, sp__law_poly_times ds St Q R → t__law_poly_times (endsD Q R) (startD ["one", "other", "found", "i", "x", "j", "y"] ds) St := by
  rintro ds S Q R ⟨p, q, rfl, h, hQ⟩
  have k := h
  obtain ⟨_, _, _, _, _, _, lp, lq, _⟩ := k
  simp only [t__law_poly_times, rsFor, rLc, wipeD, rsNext, rsSeq, rsDrop, rsRet, rsRetN, rsIf, rsAsg, rsPar, rsPar3, rsAug, rsSet, rsBreak, rsCont, rVar, rC, rBin, rTru, rTest, rChain, rNeg, rNot, rAnd, rOr, rIf, rAndV, rOrV, rNotV, rNil, rCons, rTup, rLst, rNone, rSome, rSl, rCall, rCallK, rBlt, rLRev, rMeth, rMeth0, rYes, wSeq, wEnum, wRev, wRng1, wRng2, addD_int, addD_tup, addD_str, addD_ref, subD_int, mulD_int, mulD_ref, mulD_tup, fdivD_int, modD_int, powD_int, cmpD_int, isD_non, isnD_non, iaddD_int, isNon_non, isNon_int, isNon_str, isNon_tup, isNon_fr, isNon_bl, eqD_int, neD_int, absD_int, intD_int, intD_bl, lenD_tup, lenD_ref, lenD_pl, listD_pl, tupleD_pl, seqW_pl, enumW_pl, revW_pl, slD_pl, isNon_pl, addD_pl, listD_tup, listD_ref, tupleD_tup, tupleD_ref, max2D_int, min2D_int, truD_int, truD_bl, truD_tup, truD_non, seqW_tup, seqW_ref, enumW_tup, enumW_ref, revW_tup, revW_ref, rngW1_int, rngW2_int, slD_tup, slD_ref, slD_frl, popD_ref, appendD_ref, extendD_ref, setD_ref, bindG_nm, bindG_tup, bindGs_nil, bindGs_cons, ixD_ref, startD, List.map_cons, List.map_nil, List.length_cons, List.length_nil, List.cons_append, List.nil_append, List.getElem?_cons_zero, List.getElem?_cons_succ, List.set_cons_zero, List.set_cons_succ, Option.some.injEq, exists_eq_left', exists_eq_left, Option.bind_some, Nat.reduceAdd, Nat.reduceSub, List.replicate_succ, List.replicate_zero, Dt.bl.injEq, Dt.int.injEq, decide_eq_true_eq, decide_eq_false_iff_not, Bool.false_eq_true, if_true, if_false, Bool.not_eq_true', Bool.not_true, Bool.not_false, bne_iff_ne, ne_eq, ixD_fr0, ixD_fr1, ixD_pair0, ixD_pair1, Dt.ref.injEq, List.cons.injEq, and_true, true_and, reduceIte, exists_eq, Nat.zero_add, Dt.tup.injEq, and_self, and_assoc, exists_and_left, fr_inj, pl_inj, ite_true, ite_false]
  have e0 : (if ((p.length : Int) + (q.length : Int) - 1) > 0 then ((p.length : Int) + (q.length : Int) - 1) else 0) = ((p.length + q.length - 1 : Nat) : Int) := by split <;> omega
  refine ⟨by decide, by decide, fun a ha => ?_⟩
  rw [e0]
  refine ⟨_, put_same, by omega, by omega, ?_, fun F hF => ?_⟩
  · have : sizeLine = 16777216 := by decide
    simp only [List.length_cons, List.length_nil]; omega
  · have e2 : (List.replicate (p.length + q.length - 1) [Dt.tup [Dt.int 0, Dt.int 1]]).flatten = (List.replicate (p.length + q.length - 1) (0 : Rat)).map fr := by
      rw [zeros_flat, List.map_replicate, zero_fr]
    rw [Int.toNat_natCast, e2]
    refine fin_mul h rfl (fun x3 x4 x5 x6 g hg => ?_)
    simp only [sp__law_trim, rsFor, rLc, wipeD, rsNext, rsSeq, rsDrop, rsRet, rsRetN, rsIf, rsAsg, rsPar, rsPar3, rsAug, rsSet, rsBreak, rsCont, rVar, rC, rBin, rTru, rTest, rChain, rNeg, rNot, rAnd, rOr, rIf, rAndV, rOrV, rNotV, rNil, rCons, rTup, rLst, rNone, rSome, rSl, rCall, rCallK, rBlt, rLRev, rMeth, rMeth0, rYes, wSeq, wEnum, wRev, wRng1, wRng2, addD_int, addD_tup, addD_str, addD_ref, subD_int, mulD_int, mulD_ref, mulD_tup, fdivD_int, modD_int, powD_int, cmpD_int, isD_non, isnD_non, iaddD_int, isNon_non, isNon_int, isNon_str, isNon_tup, isNon_fr, isNon_bl, eqD_int, neD_int, absD_int, intD_int, intD_bl, lenD_tup, lenD_ref, lenD_pl, listD_pl, tupleD_pl, seqW_pl, enumW_pl, revW_pl, slD_pl, isNon_pl, addD_pl, listD_tup, listD_ref, tupleD_tup, tupleD_ref, max2D_int, min2D_int, truD_int, truD_bl, truD_tup, truD_non, seqW_tup, seqW_ref, enumW_tup, enumW_ref, revW_tup, revW_ref, rngW1_int, rngW2_int, slD_tup, slD_ref, slD_frl, popD_ref, appendD_ref, extendD_ref, setD_ref, bindG_nm, bindG_tup, bindGs_nil, bindGs_cons, ixD_ref, startD, List.map_cons, List.map_nil, List.length_cons, List.length_nil, List.cons_append, List.nil_append, List.getElem?_cons_zero, List.getElem?_cons_succ, List.set_cons_zero, List.set_cons_succ, Option.some.injEq, exists_eq_left', exists_eq_left, Option.bind_some, Nat.reduceAdd, Nat.reduceSub, List.replicate_succ, List.replicate_zero, Dt.bl.injEq, Dt.int.injEq, decide_eq_true_eq, decide_eq_false_iff_not, Bool.false_eq_true, if_true, if_false, Bool.not_eq_true', Bool.not_true, Bool.not_false, bne_iff_ne, ne_eq, ixD_fr0, ixD_fr1, ixD_pair0, ixD_pair1, Dt.ref.injEq, List.cons.injEq, and_true, true_and, reduceIte, exists_eq, Nat.zero_add, Dt.tup.injEq, and_self, and_assoc, exists_and_left, fr_inj, pl_inj, ite_true, ite_false]
    refine ⟨g, .inr ⟨F, rfl, lst_same⟩, ?_⟩
    rw [hg]
    exact rt_sub hQ ((Sub.put ha).trans (Sub.put hF))
theorem hw__law_poly_at : ∀ ds St Q R, sp__law_poly_at ds St Q R → t__law_poly_at (endsD Q R) (startD ["poly", "t", "found", "x"] ds) St := by
  rintro ds S Q R ⟨p, t, rfl, h, hQ⟩
  simp only [t__law_poly_at, rsFor, rLc, wipeD, rsNext, rsSeq, rsDrop, rsRet, rsRetN, rsIf, rsAsg, rsPar, rsPar3, rsAug, rsSet, rsBreak, rsCont, rVar, rC, rBin, rTru, rTest, rChain, rNeg, rNot, rAnd, rOr, rIf, rAndV, rOrV, rNotV, rNil, rCons, rTup, rLst, rNone, rSome, rSl, rCall, rCallK, rBlt, rLRev, rMeth, rMeth0, rYes, wSeq, wEnum, wRev, wRng1, wRng2, addD_int, addD_tup, addD_str, addD_ref, subD_int, mulD_int, mulD_ref, mulD_tup, fdivD_int, modD_int, powD_int, cmpD_int, isD_non, isnD_non, iaddD_int, isNon_non, isNon_int, isNon_str, isNon_tup, isNon_fr, isNon_bl, eqD_int, neD_int, absD_int, intD_int, intD_bl, lenD_tup, lenD_ref, lenD_pl, listD_pl, tupleD_pl, seqW_pl, enumW_pl, revW_pl, slD_pl, isNon_pl, addD_pl, listD_tup, listD_ref, tupleD_tup, tupleD_ref, max2D_int, min2D_int, truD_int, truD_bl, truD_tup, truD_non, seqW_tup, seqW_ref, enumW_tup, enumW_ref, revW_tup, revW_ref, rngW1_int, rngW2_int, slD_tup, slD_ref, slD_frl, popD_ref, appendD_ref, extendD_ref, setD_ref, bindG_nm, bindG_tup, bindGs_nil, bindGs_cons, ixD_ref, startD, List.map_cons, List.map_nil, List.length_cons, List.length_nil, List.cons_append, List.nil_append, List.getElem?_cons_zero, List.getElem?_cons_succ, List.set_cons_zero, List.set_cons_succ, Option.some.injEq, exists_eq_left', exists_eq_left, Option.bind_some, Nat.reduceAdd, Nat.reduceSub, List.replicate_succ, List.replicate_zero, Dt.bl.injEq, Dt.int.injEq, decide_eq_true_eq, decide_eq_false_iff_not, Bool.false_eq_true, if_true, if_false, Bool.not_eq_true', Bool.not_true, Bool.not_false, bne_iff_ne, ne_eq, ixD_fr0, ixD_fr1, ixD_pair0, ixD_pair1, Dt.ref.injEq, List.cons.injEq, and_true, true_and, reduceIte, exists_eq, Nat.zero_add, Dt.tup.injEq, and_self, and_assoc, exists_and_left, fr_inj, pl_inj, ite_true, ite_false]
  refine ⟨by decide, fun a ha => ⟨_, lst_same, fun b hb => ⟨_, lst_same, ?_⟩⟩⟩
  rw [← List.map_reverse, zero_fr]
  refine loop_at (p := p) rfl lst_same h (fun x3 => ?_) p.reverse [] _ (by simp)
  simp only [rsFor, rLc, wipeD, rsNext, rsSeq, rsDrop, rsRet, rsRetN, rsIf, rsAsg, rsPar, rsPar3, rsAug, rsSet, rsBreak, rsCont, rVar, rC, rBin, rTru, rTest, rChain, rNeg, rNot, rAnd, rOr, rIf, rAndV, rOrV, rNotV, rNil, rCons, rTup, rLst, rNone, rSome, rSl, rCall, rCallK, rBlt, rLRev, rMeth, rMeth0, rYes, wSeq, wEnum, wRev, wRng1, wRng2, addD_int, addD_tup, addD_str, addD_ref, subD_int, mulD_int, mulD_ref, mulD_tup, fdivD_int, modD_int, powD_int, cmpD_int, isD_non, isnD_non, iaddD_int, isNon_non, isNon_int, isNon_str, isNon_tup, isNon_fr, isNon_bl, eqD_int, neD_int, absD_int, intD_int, intD_bl, lenD_tup, lenD_ref, lenD_pl, listD_pl, tupleD_pl, seqW_pl, enumW_pl, revW_pl, slD_pl, isNon_pl, addD_pl, listD_tup, listD_ref, tupleD_tup, tupleD_ref, max2D_int, min2D_int, truD_int, truD_bl, truD_tup, truD_non, seqW_tup, seqW_ref, enumW_tup, enumW_ref, revW_tup, revW_ref, rngW1_int, rngW2_int, slD_tup, slD_ref, slD_frl, popD_ref, appendD_ref, extendD_ref, setD_ref, bindG_nm, bindG_tup, bindGs_nil, bindGs_cons, ixD_ref, startD, List.map_cons, List.map_nil, List.length_cons, List.length_nil, List.cons_append, List.nil_append, List.getElem?_cons_zero, List.getElem?_cons_succ, List.set_cons_zero, List.set_cons_succ, Option.some.injEq, exists_eq_left', exists_eq_left, Option.bind_some, Nat.reduceAdd, Nat.reduceSub, List.replicate_succ, List.replicate_zero, Dt.bl.injEq, Dt.int.injEq, decide_eq_true_eq, decide_eq_false_iff_not, Bool.false_eq_true, if_true, if_false, Bool.not_eq_true', Bool.not_true, Bool.not_false, bne_iff_ne, ne_eq, ixD_fr0, ixD_fr1, ixD_pair0, ixD_pair1, Dt.ref.injEq, List.cons.injEq, and_true, true_and, reduceIte, exists_eq, Nat.zero_add, Dt.tup.injEq, and_self, and_assoc, exists_and_left, fr_inj, pl_inj, ite_true, ite_false]
  exact rt_sub hQ ((Sub.put ha).trans (Sub.put hb))
theorem lc_lslope {D : Sto → Prop} {P : Addr} {p : List Rat} {te : RE} (hte : te = rCall sp_times (rCons (rTup (rCons (rVar 1) (rCons (rC (Dt.int 1)) rNil))) (rCons (rBin ixD (rVar 0) (rVar 1)) rNil))) (S0 : Sto) (hp : ∀ q ∈ p, Sz 1900 q) (hl : p.length ≤ 1000) :
    ∀ (m k : Nat) (acc : List Rat), k + 1 + m = p.length → acc.length = k → D (put S0 P (.lst ((acc ++ slopeK (k + 1) (p.drop (k + 1))).map fr))) →
      lcGo (.nm 1) rYes te (fun _ => True) P [some (pl p), none] D ((List.range' k m).map fun i : Nat => Dt.int (1 + i)) (put S0 P (.lst (acc.map fr)))
  | 0, k, acc, hk, ha, hD => ⟨trivial, by
    rw [List.drop_eq_nil_of_le (by omega)] at hD
    simp only [slopeK, List.append_nil] at hD; exact hD⟩
  | m + 1, k, acc, hk, ha, hD => by
    refine ⟨trivial, _, bindG_nm, ?_⟩
    subst hte
    have hkl : k + 1 < p.length := by omega
    have e1 : (1 : Int) + (k : Int) = ((k + 1 : Nat) : Int) := by omega
    simp only [rsFor, rLc, wipeD, rsNext, rsSeq, rsDrop, rsRet, rsRetN, rsIf, rsAsg, rsPar, rsPar3, rsAug, rsSet, rsBreak, rsCont, rVar, rC, rBin, rTru, rTest, rChain, rNeg, rNot, rAnd, rOr, rIf, rAndV, rOrV, rNotV, rNil, rCons, rTup, rLst, rNone, rSome, rSl, rCall, rCallK, rBlt, rLRev, rMeth, rMeth0, rYes, wSeq, wEnum, wRev, wRng1, wRng2, addD_int, addD_tup, addD_str, addD_ref, subD_int, mulD_int, mulD_ref, mulD_tup, fdivD_int, modD_int, powD_int, cmpD_int, isD_non, isnD_non, iaddD_int, isNon_non, isNon_int, isNon_str, isNon_tup, isNon_fr, isNon_bl, eqD_int, neD_int, absD_int, intD_int, intD_bl, lenD_tup, lenD_ref, lenD_pl, listD_pl, tupleD_pl, seqW_pl, enumW_pl, revW_pl, slD_pl, isNon_pl, addD_pl, listD_tup, listD_ref, tupleD_tup, tupleD_ref, max2D_int, min2D_int, truD_int, truD_bl, truD_tup, truD_non, seqW_tup, seqW_ref, enumW_tup, enumW_ref, revW_tup, revW_ref, rngW1_int, rngW2_int, slD_tup, slD_ref, slD_frl, popD_ref, appendD_ref, extendD_ref, setD_ref, bindG_nm, bindG_tup, bindGs_nil, bindGs_cons, ixD_ref, startD, List.map_cons, List.map_nil, List.length_cons, List.length_nil, List.cons_append, List.nil_append, List.getElem?_cons_zero, List.getElem?_cons_succ, List.set_cons_zero, List.set_cons_succ, Option.some.injEq, exists_eq_left', exists_eq_left, Option.bind_some, Nat.reduceAdd, Nat.reduceSub, List.replicate_succ, List.replicate_zero, Dt.bl.injEq, Dt.int.injEq, decide_eq_true_eq, decide_eq_false_iff_not, Bool.false_eq_true, if_true, if_false, Bool.not_eq_true', Bool.not_true, Bool.not_false, bne_iff_ne, ne_eq, ixD_fr0, ixD_fr1, ixD_pair0, ixD_pair1, Dt.ref.injEq, List.cons.injEq, and_true, true_and, reduceIte, exists_eq, Nat.zero_add, Dt.tup.injEq, and_self, and_assoc, exists_and_left, fr_inj, pl_inj, ite_true, ite_false, sp_times, e1, ixD_pl hkl, fr_nat]
    have sk : Sz 4000 ((k + 1 : Nat) : Rat) := by
      constructor
      · show (((k + 1 : Nat) : Int)).natAbs < _
        exact Nat.lt_of_lt_of_le (show k + 1 < 2 ^ 10 by omega) (Nat.pow_le_pow_right (by omega) (by omega))
      · exact Nat.one_lt_two_pow (by omega)
    refine ⟨by decide, sk, sz_mono (hp _ (List.getElem_mem hkl)) (by omega), _, put_same, ?_, ?_⟩
    · have : sizeLine = 16777216 := by decide
      rw [List.length_map]; omega
    · rw [put_put]
      have e : acc.map fr ++ [fr (((k + 1 : Nat) : Rat) * p[k + 1])] = (acc ++ [((k + 1 : Nat) : Rat) * p[k + 1]]).map fr := by simp
      rw [e]
      refine lc_lslope rfl S0 hp hl m (k + 1) _ (by omega) (by rw [List.length_append, ha]; rfl) ?_
      rw [List.append_assoc]
      rw [List.drop_eq_getElem_cons hkl] at hD
      exact hD
theorem hw__law_poly_slope : ∀ ds St Q R, sp__law_poly_slope ds St Q R → t__law_poly_slope (endsD Q R) (startD ["poly", "k"] ds) St := by
  rintro ds S Q R ⟨p, rfl, ⟨hp, hl⟩, hQ⟩
  simp only [t__law_poly_slope, rsFor, rLc, wipeD, rsNext, rsSeq, rsDrop, rsRet, rsRetN, rsIf, rsAsg, rsPar, rsPar3, rsAug, rsSet, rsBreak, rsCont, rVar, rC, rBin, rTru, rTest, rChain, rNeg, rNot, rAnd, rOr, rIf, rAndV, rOrV, rNotV, rNil, rCons, rTup, rLst, rNone, rSome, rSl, rCall, rCallK, rBlt, rLRev, rMeth, rMeth0, rYes, wSeq, wEnum, wRev, wRng1, wRng2, addD_int, addD_tup, addD_str, addD_ref, subD_int, mulD_int, mulD_ref, mulD_tup, fdivD_int, modD_int, powD_int, cmpD_int, isD_non, isnD_non, iaddD_int, isNon_non, isNon_int, isNon_str, isNon_tup, isNon_fr, isNon_bl, eqD_int, neD_int, absD_int, intD_int, intD_bl, lenD_tup, lenD_ref, lenD_pl, listD_pl, tupleD_pl, seqW_pl, enumW_pl, revW_pl, slD_pl, isNon_pl, addD_pl, listD_tup, listD_ref, tupleD_tup, tupleD_ref, max2D_int, min2D_int, truD_int, truD_bl, truD_tup, truD_non, seqW_tup, seqW_ref, enumW_tup, enumW_ref, revW_tup, revW_ref, rngW1_int, rngW2_int, slD_tup, slD_ref, slD_frl, popD_ref, appendD_ref, extendD_ref, setD_ref, bindG_nm, bindG_tup, bindGs_nil, bindGs_cons, ixD_ref, startD, List.map_cons, List.map_nil, List.length_cons, List.length_nil, List.cons_append, List.nil_append, List.getElem?_cons_zero, List.getElem?_cons_succ, List.set_cons_zero, List.set_cons_succ, Option.some.injEq, exists_eq_left', exists_eq_left, Option.bind_some, Nat.reduceAdd, Nat.reduceSub, List.replicate_succ, List.replicate_zero, Dt.bl.injEq, Dt.int.injEq, decide_eq_true_eq, decide_eq_false_iff_not, Bool.false_eq_true, if_true, if_false, Bool.not_eq_true', Bool.not_true, Bool.not_false, bne_iff_ne, ne_eq, ixD_fr0, ixD_fr1, ixD_pair0, ixD_pair1, Dt.ref.injEq, List.cons.injEq, and_true, true_and, reduceIte, exists_eq, Nat.zero_add, Dt.tup.injEq, and_self, and_assoc, exists_and_left, fr_inj, pl_inj, ite_true, ite_false]
  split
  · rename_i h1
    refine ⟨by unfold smallI; omega, by unfold smallI; omega, fun a ha => ?_⟩
    rw [rngD_eq]
    have e : ((p.length : Int) - 1).toNat = p.length - 1 := by omega
    rw [e]
    refine lc_lslope rfl S hp hl (p.length - 1) 0 [] (by omega) rfl ?_
    simp only [rsFor, rLc, wipeD, rsNext, rsSeq, rsDrop, rsRet, rsRetN, rsIf, rsAsg, rsPar, rsPar3, rsAug, rsSet, rsBreak, rsCont, rVar, rC, rBin, rTru, rTest, rChain, rNeg, rNot, rAnd, rOr, rIf, rAndV, rOrV, rNotV, rNil, rCons, rTup, rLst, rNone, rSome, rSl, rCall, rCallK, rBlt, rLRev, rMeth, rMeth0, rYes, wSeq, wEnum, wRev, wRng1, wRng2, addD_int, addD_tup, addD_str, addD_ref, subD_int, mulD_int, mulD_ref, mulD_tup, fdivD_int, modD_int, powD_int, cmpD_int, isD_non, isnD_non, iaddD_int, isNon_non, isNon_int, isNon_str, isNon_tup, isNon_fr, isNon_bl, eqD_int, neD_int, absD_int, intD_int, intD_bl, lenD_tup, lenD_ref, lenD_pl, listD_pl, tupleD_pl, seqW_pl, enumW_pl, revW_pl, slD_pl, isNon_pl, addD_pl, listD_tup, listD_ref, tupleD_tup, tupleD_ref, max2D_int, min2D_int, truD_int, truD_bl, truD_tup, truD_non, seqW_tup, seqW_ref, enumW_tup, enumW_ref, revW_tup, revW_ref, rngW1_int, rngW2_int, slD_tup, slD_ref, slD_frl, popD_ref, appendD_ref, extendD_ref, setD_ref, bindG_nm, bindG_tup, bindGs_nil, bindGs_cons, ixD_ref, startD, List.map_cons, List.map_nil, List.length_cons, List.length_nil, List.cons_append, List.nil_append, List.getElem?_cons_zero, List.getElem?_cons_succ, List.set_cons_zero, List.set_cons_succ, Option.some.injEq, exists_eq_left', exists_eq_left, Option.bind_some, Nat.reduceAdd, Nat.reduceSub, List.replicate_succ, List.replicate_zero, Dt.bl.injEq, Dt.int.injEq, decide_eq_true_eq, decide_eq_false_iff_not, Bool.false_eq_true, if_true, if_false, Bool.not_eq_true', Bool.not_true, Bool.not_false, bne_iff_ne, ne_eq, ixD_fr0, ixD_fr1, ixD_pair0, ixD_pair1, Dt.ref.injEq, List.cons.injEq, and_true, true_and, reduceIte, exists_eq, Nat.zero_add, Dt.tup.injEq, and_self, and_assoc, exists_and_left, fr_inj, pl_inj, ite_true, ite_false, lst_same]
    have e2 : slopeK 1 (p.drop 1) = slope p := by
      rw [List.drop_one]; rfl
    rw [e2]
    exact rt_sub hQ (Sub.put ha)
  · rename_i h1
    have e : slope p = [] := by
      match p, h1 with
      | [], _ => rfl
      | [a], _ => rfl
      | _ :: _ :: _, h => simp at h; omega
    rw [e] at hQ
    exact ⟨by decide, rt_of hQ⟩
theorem len__law_gcd : ∀ ds S Q R, sp__law_gcd ds S Q R → ds.length = 2 := len_common_divisor
theorem len__law_frac : ∀ ds S Q R, sp__law_frac ds S Q R → ds.length = 2 := by rintro ds S Q R ⟨p, q, rfl, _⟩; rfl
theorem len__law_plus : ∀ ds S Q R, sp__law_plus ds S Q R → ds.length = 2 := len_plus
theorem len__law_times : ∀ ds S Q R, sp__law_times ds S Q R → ds.length = 2 := len_times
theorem len__law_minus : ∀ ds S Q R, sp__law_minus ds S Q R → ds.length = 1 := by rintro ds S Q R ⟨p, rfl, _⟩; rfl
theorem len__law_trim : ∀ ds S Q R, sp__law_trim ds S Q R → ds.length = 1 := by rintro ds S Q R ⟨p, q, rfl, _⟩; rfl
theorem len__law_poly_times : ∀ ds S Q R, sp__law_poly_times ds S Q R → ds.length = 2 := len_poly_times
theorem len__law_poly_at : ∀ ds S Q R, sp__law_poly_at ds S Q R → ds.length = 2 := len_value_at
theorem len__law_poly_slope : ∀ ds S Q R, sp__law_poly_slope ds S Q R → ds.length = 1 := len_slope_of
end Ev

namespace Ev
open PySem PySem.Spec PyProof.Rows L2
/-! ### judging -/
inductive PV (S : Sto) : Dt → Prop
  | non : PV S .non
  | bl (b : Bool) : PV S (.bl b)
  | int (i : Int) : PV S (.int i)
  | str (x : Str) : PV S (.str x)
  | ref {a : Addr} {xs : List Dt} : lstOf S a = some xs → PV S (.ref a)
  | tup {us : List Dt} : (∀ u ∈ us, PV S u) → PV S (.tup us)
def isT : Dt → Bool
  | .tup _ => true
  | _ => false
def isI : Dt → Bool
  | .int _ => true
  | _ => false
def isB : Dt → Bool
  | .bl _ => true
  | _ => false
def ferr : Dt → Dt
  | .tup [.int a, .int b] => if b < 1 then .str "below" else if 1 < (Int.gcd a b : Int) then .str "common" else .non
  | _ => .str "form"
def perrs : Nat → List Dt → Option Dt
  | _, [] => none
  | k, u :: us => if isNon (ferr u) = true then perrs (k + 1) us else some (.tup [.str "item", .int (k : Nat), ferr u])
def last0 : List Dt → Bool
  | [] => false
  | u :: us => match (u :: us).getLast? with
    | some (.tup [.int a, _]) => decide (a = 0)
    | _ => false
def perr : Dt → Dt
  | .tup us => if 7 < us.length then .str "form" else match perrs 0 us with
    | some e => e
    | none => if last0 us = true then .str "last" else .non
  | _ => .str "form"
def sp_is_integer : SpD := fun ds S Q _ => ∃ x : Dt, ds = [x] ∧ PV S x ∧ Q (.bl (isI x)) S
def sp_fraction_error : SpD := fun ds S Q _ => ∃ x : Dt, ds = [x] ∧ PV S x ∧ Q (ferr x) S
def sp_poly_error : SpD := fun ds S Q _ => ∃ x : Dt, ds = [x] ∧ PV S x ∧ Q (perr x) S
def sp__law_item_fault : SpD := sp_fraction_error
def sp__law_fault : SpD := sp_poly_error
def t_is_integer : RS := rsRet (rAndV (rBlt isiD (rCons (rVar 0) (rCons (rC (Dt.ty "int")) rNil))) (rNotV (rBlt isiD (rCons (rVar 0) (rCons (rC (Dt.ty "bool")) rNil)))))
def t_fraction_error : RS := rsSeq (rsIf (rOr (rNot (rTru (rBlt isiD (rCons (rVar 0) (rCons (rC (Dt.ty "tuple")) rNil))))) (rTest (rBin neD (rBlt lenD (rCons (rVar 0) rNil)) (rC (Dt.int 2))))) (rsRet (rC (Dt.str (Str.ofString "form")))) rsNext) (rsSeq (rsIf (rOr (rNot (rTru (rCall sp_is_integer (rCons (rBin ixD (rVar 0) (rC (Dt.int 0))) rNil)))) (rNot (rTru (rCall sp_is_integer (rCons (rBin ixD (rVar 0) (rC (Dt.int 1))) rNil))))) (rsRet (rC (Dt.str (Str.ofString "form")))) rsNext) (rsSeq (rsIf (rTest (rBin (cmpD fun i j => decide (i < j)) (rBin ixD (rVar 0) (rC (Dt.int 1))) (rC (Dt.int 1)))) (rsRet (rC (Dt.str (Str.ofString "below")))) rsNext) (rsRet (rIf (rTest (rBin (cmpD fun i j => decide (j < i)) (rCall sp_common_divisor (rCons (rBin ixD (rVar 0) (rC (Dt.int 0))) (rCons (rBin ixD (rVar 0) (rC (Dt.int 1))) rNil))) (rC (Dt.int 1)))) (rC (Dt.str (Str.ofString "common"))) (rC Dt.non)))))
def t_poly_error : RS := rsSeq (rsIf (rOr (rNot (rTru (rBlt isiD (rCons (rVar 0) (rCons (rC (Dt.ty "tuple")) rNil))))) (rTest (rBin (cmpD fun i j => decide (j < i)) (rBlt lenD (rCons (rVar 0) rNil)) (rBin addD (rC (Dt.int 6)) (rC (Dt.int 1)))))) (rsRet (rC (Dt.str (Str.ofString "form")))) rsNext) (rsSeq (rsFor (wEnum (rVar 0)) (Tg.tup [Tg.nm 1, Tg.nm 2]) (rsSeq (rsAsg (rCall sp_fraction_error (rCons (rVar 2) rNil)) (Tg.nm 3)) (rsIf (rTest (rBin isnD (rVar 3) (rC Dt.non))) (rsRet (rTup (rCons (rC (Dt.str (Str.ofString "item"))) (rCons (rVar 1) (rCons (rVar 3) rNil))))) rsNext))) (rsRet (rIf (rAnd (rTru (rVar 0)) (rTest (rBin eqD (rBin ixD (rBin ixD (rVar 0) (rNeg (rC (Dt.int 1)))) (rC (Dt.int 0))) (rC (Dt.int 0))))) (rC (Dt.str (Str.ofString "last"))) (rC Dt.non))))
def t__law_item_fault : RS := rsSeq (rsIf (rOr (rNot (rTru (rBlt isiD (rCons (rVar 0) (rCons (rC (Dt.ty "tuple")) rNil))))) (rTest (rBin neD (rBlt lenD (rCons (rVar 0) rNil)) (rC (Dt.int 2))))) (rsRet (rC (Dt.str (Str.ofString "form")))) rsNext) (rsSeq (rsIf (rNot (rTru (rBlt allD (rCons (rLc (wSeq (rVar 0)) (Tg.nm 1) rYes (rAndV (rBlt isiD (rCons (rVar 1) (rCons (rC (Dt.ty "int")) rNil))) (rNotV (rBlt isiD (rCons (rVar 1) (rCons (rC (Dt.ty "bool")) rNil))))) [1]) rNil)))) (rsRet (rC (Dt.str (Str.ofString "form")))) rsNext) (rsSeq (rsIf (rTest (rBin (cmpD fun i j => decide (i < j)) (rBin ixD (rVar 0) (rC (Dt.int 1))) (rC (Dt.int 1)))) (rsRet (rC (Dt.str (Str.ofString "below")))) rsNext) (rsRet (rIf (rTest (rBin (cmpD fun i j => decide (j < i)) (rCall sp__law_gcd (rCons (rBin ixD (rVar 0) (rC (Dt.int 0))) (rCons (rBin ixD (rVar 0) (rC (Dt.int 1))) rNil))) (rC (Dt.int 1)))) (rC (Dt.str (Str.ofString "common"))) (rC Dt.non)))))
def t__law_fault : RS := rsSeq (rsIf (rOr (rNot (rTru (rBlt isiD (rCons (rVar 0) (rCons (rC (Dt.ty "tuple")) rNil))))) (rTest (rBin (cmpD fun i j => decide (j < i)) (rBlt lenD (rCons (rVar 0) rNil)) (rC (Dt.int 7))))) (rsRet (rC (Dt.str (Str.ofString "form")))) rsNext) (rsSeq (rsFor (wEnum (rVar 0)) (Tg.tup [Tg.nm 1, Tg.nm 2]) (rsSeq (rsAsg (rCall sp__law_item_fault (rCons (rVar 2) rNil)) (Tg.nm 3)) (rsIf (rTest (rBin isnD (rVar 3) (rC Dt.non))) (rsRet (rTup (rCons (rC (Dt.str (Str.ofString "item"))) (rCons (rVar 1) (rCons (rVar 3) rNil))))) rsNext))) (rsRet (rIf (rAnd (rTest (rBin neD (rVar 0) (rTup rNil))) (rTest (rBin eqD (rBin ixD (rVar 0) (rNeg (rC (Dt.int 1)))) (rTup (rCons (rC (Dt.int 0)) (rCons (rC (Dt.int 1)) rNil)))))) (rC (Dt.str (Str.ofString "last"))) (rC Dt.non))))
section
variable {S S' : Sto} {x : Dt} {Q : QD}
theorem PV.sub (s : Sub S S') : PV S x → PV S' x := fun h => by
  induction h with
  | non => exact .non
  | bl b => exact .bl b
  | int i => exact .int i
  | str z => exact .str z
  | ref e => exact .ref (lstOf_sub s e)
  | tup _ ih => exact .tup ih
theorem isi_of {n t : String} {b : Bool} (h1 : tyOf S x = some t) (h2 : kitB t n = some b) (q : Q (.bl b) S) : isiD [x, .ty n] S Q := ⟨t, b, h1, h2, q⟩
theorem isi_tuple (h : PV S x) (q : Q (.bl (isT x)) S) : isiD [x, .ty "tuple"] S Q := by
  cases h with
  | ref e => first | exact isi_of (t := "list") (b := false) (by simp [tyOf, e]) (by decide +kernel) q | exact isi_of (t := "list") (b := true) (by simp [tyOf, e]) (by decide +kernel) q
  | _ => first | exact isi_of (b := true) rfl (by decide +kernel) q | exact isi_of (b := false) rfl (by decide +kernel) q
theorem isi_int (h : PV S x) (q : Q (.bl (isI x || isB x)) S) : isiD [x, .ty "int"] S Q := by
  cases h with
  | ref e => first | exact isi_of (t := "list") (b := false) (by simp [tyOf, e]) (by decide +kernel) q | exact isi_of (t := "list") (b := true) (by simp [tyOf, e]) (by decide +kernel) q
  | _ => first | exact isi_of (b := true) rfl (by decide +kernel) q | exact isi_of (b := false) rfl (by decide +kernel) q
theorem isi_bool (h : PV S x) (q : Q (.bl (isB x)) S) : isiD [x, .ty "bool"] S Q := by
  cases h with
  | ref e => first | exact isi_of (t := "list") (b := false) (by simp [tyOf, e]) (by decide +kernel) q | exact isi_of (t := "list") (b := true) (by simp [tyOf, e]) (by decide +kernel) q
  | _ => first | exact isi_of (b := true) rfl (by decide +kernel) q | exact isi_of (b := false) rfl (by decide +kernel) q
end
theorem hw_is_integer : ∀ ds St Q R, sp_is_integer ds St Q R → t_is_integer (endsD Q R) (startD ["value"] ds) St := by
  rintro ds S Q R ⟨x, rfl, h, hQ⟩
  simp only [t_is_integer, rsFor, rLc, wipeD, rsNext, rsSeq, rsDrop, rsRet, rsRetN, rsIf, rsAsg, rsPar, rsPar3, rsAug, rsSet, rsBreak, rsCont, rVar, rC, rBin, rTru, rTest, rChain, rNeg, rNot, rAnd, rOr, rIf, rAndV, rOrV, rNotV, rNil, rCons, rTup, rLst, rNone, rSome, rSl, rCall, rCallK, rBlt, rLRev, rMeth, rMeth0, rYes, wSeq, wEnum, wRev, wRng1, wRng2, addD_int, addD_tup, addD_str, addD_ref, subD_int, mulD_int, mulD_ref, mulD_tup, fdivD_int, modD_int, powD_int, cmpD_int, isD_non, isnD_non, iaddD_int, isNon_non, isNon_int, isNon_str, isNon_tup, isNon_fr, isNon_bl, eqD_int, neD_int, absD_int, intD_int, intD_bl, lenD_tup, lenD_ref, lenD_pl, listD_pl, tupleD_pl, seqW_pl, enumW_pl, revW_pl, slD_pl, isNon_pl, addD_pl, listD_tup, listD_ref, tupleD_tup, tupleD_ref, max2D_int, min2D_int, truD_int, truD_bl, truD_tup, truD_non, seqW_tup, seqW_ref, enumW_tup, enumW_ref, revW_tup, revW_ref, rngW1_int, rngW2_int, slD_tup, slD_ref, slD_frl, popD_ref, appendD_ref, extendD_ref, setD_ref, bindG_nm, bindG_tup, bindGs_nil, bindGs_cons, ixD_ref, startD, List.map_cons, List.map_nil, List.length_cons, List.length_nil, List.cons_append, List.nil_append, List.getElem?_cons_zero, List.getElem?_cons_succ, List.set_cons_zero, List.set_cons_succ, Option.some.injEq, exists_eq_left', exists_eq_left, Option.bind_some, Nat.reduceAdd, Nat.reduceSub, List.replicate_succ, List.replicate_zero, Dt.bl.injEq, Dt.int.injEq, decide_eq_true_eq, decide_eq_false_iff_not, Bool.false_eq_true, Bool.true_eq_false, if_true, if_false, Bool.not_eq_true', Bool.not_true, Bool.not_false, bne_iff_ne, ne_eq, ixD_fr0, ixD_fr1, ixD_pair0, ixD_pair1, Dt.ref.injEq, List.cons.injEq, and_true, true_and, reduceIte, exists_eq, Nat.zero_add, Dt.tup.injEq, and_self, and_assoc, exists_and_left, fr_inj, pl_inj, ite_true, ite_false]
  refine isi_int h ?_
  simp only [rsFor, rLc, wipeD, rsNext, rsSeq, rsDrop, rsRet, rsRetN, rsIf, rsAsg, rsPar, rsPar3, rsAug, rsSet, rsBreak, rsCont, rVar, rC, rBin, rTru, rTest, rChain, rNeg, rNot, rAnd, rOr, rIf, rAndV, rOrV, rNotV, rNil, rCons, rTup, rLst, rNone, rSome, rSl, rCall, rCallK, rBlt, rLRev, rMeth, rMeth0, rYes, wSeq, wEnum, wRev, wRng1, wRng2, addD_int, addD_tup, addD_str, addD_ref, subD_int, mulD_int, mulD_ref, mulD_tup, fdivD_int, modD_int, powD_int, cmpD_int, isD_non, isnD_non, iaddD_int, isNon_non, isNon_int, isNon_str, isNon_tup, isNon_fr, isNon_bl, eqD_int, neD_int, absD_int, intD_int, intD_bl, lenD_tup, lenD_ref, lenD_pl, listD_pl, tupleD_pl, seqW_pl, enumW_pl, revW_pl, slD_pl, isNon_pl, addD_pl, listD_tup, listD_ref, tupleD_tup, tupleD_ref, max2D_int, min2D_int, truD_int, truD_bl, truD_tup, truD_non, seqW_tup, seqW_ref, enumW_tup, enumW_ref, revW_tup, revW_ref, rngW1_int, rngW2_int, slD_tup, slD_ref, slD_frl, popD_ref, appendD_ref, extendD_ref, setD_ref, bindG_nm, bindG_tup, bindGs_nil, bindGs_cons, ixD_ref, startD, List.map_cons, List.map_nil, List.length_cons, List.length_nil, List.cons_append, List.nil_append, List.getElem?_cons_zero, List.getElem?_cons_succ, List.set_cons_zero, List.set_cons_succ, Option.some.injEq, exists_eq_left', exists_eq_left, Option.bind_some, Nat.reduceAdd, Nat.reduceSub, List.replicate_succ, List.replicate_zero, Dt.bl.injEq, Dt.int.injEq, decide_eq_true_eq, decide_eq_false_iff_not, Bool.false_eq_true, Bool.true_eq_false, if_true, if_false, Bool.not_eq_true', Bool.not_true, Bool.not_false, bne_iff_ne, ne_eq, ixD_fr0, ixD_fr1, ixD_pair0, ixD_pair1, Dt.ref.injEq, List.cons.injEq, and_true, true_and, reduceIte, exists_eq, Nat.zero_add, Dt.tup.injEq, and_self, and_assoc, exists_and_left, fr_inj, pl_inj, ite_true, ite_false]
  split
  · rename_i hy
    refine isi_bool h ?_
    simp only [rsFor, rLc, wipeD, rsNext, rsSeq, rsDrop, rsRet, rsRetN, rsIf, rsAsg, rsPar, rsPar3, rsAug, rsSet, rsBreak, rsCont, rVar, rC, rBin, rTru, rTest, rChain, rNeg, rNot, rAnd, rOr, rIf, rAndV, rOrV, rNotV, rNil, rCons, rTup, rLst, rNone, rSome, rSl, rCall, rCallK, rBlt, rLRev, rMeth, rMeth0, rYes, wSeq, wEnum, wRev, wRng1, wRng2, addD_int, addD_tup, addD_str, addD_ref, subD_int, mulD_int, mulD_ref, mulD_tup, fdivD_int, modD_int, powD_int, cmpD_int, isD_non, isnD_non, iaddD_int, isNon_non, isNon_int, isNon_str, isNon_tup, isNon_fr, isNon_bl, eqD_int, neD_int, absD_int, intD_int, intD_bl, lenD_tup, lenD_ref, lenD_pl, listD_pl, tupleD_pl, seqW_pl, enumW_pl, revW_pl, slD_pl, isNon_pl, addD_pl, listD_tup, listD_ref, tupleD_tup, tupleD_ref, max2D_int, min2D_int, truD_int, truD_bl, truD_tup, truD_non, seqW_tup, seqW_ref, enumW_tup, enumW_ref, revW_tup, revW_ref, rngW1_int, rngW2_int, slD_tup, slD_ref, slD_frl, popD_ref, appendD_ref, extendD_ref, setD_ref, bindG_nm, bindG_tup, bindGs_nil, bindGs_cons, ixD_ref, startD, List.map_cons, List.map_nil, List.length_cons, List.length_nil, List.cons_append, List.nil_append, List.getElem?_cons_zero, List.getElem?_cons_succ, List.set_cons_zero, List.set_cons_succ, Option.some.injEq, exists_eq_left', exists_eq_left, Option.bind_some, Nat.reduceAdd, Nat.reduceSub, List.replicate_succ, List.replicate_zero, Dt.bl.injEq, Dt.int.injEq, decide_eq_true_eq, decide_eq_false_iff_not, Bool.false_eq_true, Bool.true_eq_false, if_true, if_false, Bool.not_eq_true', Bool.not_true, Bool.not_false, bne_iff_ne, ne_eq, ixD_fr0, ixD_fr1, ixD_pair0, ixD_pair1, Dt.ref.injEq, List.cons.injEq, and_true, true_and, reduceIte, exists_eq, Nat.zero_add, Dt.tup.injEq, and_self, and_assoc, exists_and_left, fr_inj, pl_inj, ite_true, ite_false]
    refine rt_of ?_
    cases h <;> first | exact absurd hy Bool.false_ne_true | exact hQ
  · rename_i hn
    refine rt_of ?_
    cases h <;> first | exact absurd rfl hn | exact hQ
theorem len_is_integer : ∀ ds S Q R, sp_is_integer ds S Q R → ds.length = 1 := by rintro ds S Q R ⟨p, rfl, _⟩; rfl
theorem PV.tup_mem {S : Sto} {us : List Dt} (h : PV S (.tup us)) : ∀ u ∈ us, PV S u := by
  cases h with
  | tup h => exact h
theorem ferr_form {u v : Dt} (h : ¬ (isI u = true ∧ isI v = true)) : ferr (.tup [u, v]) = .str "form" := by
  cases u <;> cases v <;> first | rfl | exact absurd ⟨rfl, rfl⟩ h
theorem ferr_len {us : List Dt} (h : us.length ≠ 2) : ferr (.tup us) = .str "form" := by
  match us with
  | [] => rfl
  | [u] => cases u <;> rfl
  | [_, _] => exact absurd rfl h
  | u :: v :: w :: r => cases u <;> first | rfl | (cases v <;> rfl)
theorem ferr_not {x : Dt} (h : isT x = false) : ferr x = .str "form" := by
  cases x <;> first | rfl | cases h
theorem hw_fraction_error : ∀ ds St Q R, sp_fraction_error ds St Q R → t_fraction_error (endsD Q R) (startD ["value"] ds) St := by
  rintro ds S Q R ⟨x, rfl, h, hQ⟩
  simp only [t_fraction_error, rsFor, rLc, wipeD, rsNext, rsSeq, rsDrop, rsRet, rsRetN, rsIf, rsAsg, rsPar, rsPar3, rsAug, rsSet, rsBreak, rsCont, rVar, rC, rBin, rTru, rTest, rChain, rNeg, rNot, rAnd, rOr, rIf, rAndV, rOrV, rNotV, rNil, rCons, rTup, rLst, rNone, rSome, rSl, rCall, rCallK, rBlt, rLRev, rMeth, rMeth0, rYes, wSeq, wEnum, wRev, wRng1, wRng2, addD_int, addD_tup, addD_str, addD_ref, subD_int, mulD_int, mulD_ref, mulD_tup, fdivD_int, modD_int, powD_int, cmpD_int, isD_non, isnD_non, iaddD_int, isNon_non, isNon_int, isNon_str, isNon_tup, isNon_fr, isNon_bl, eqD_int, neD_int, absD_int, intD_int, intD_bl, lenD_tup, lenD_ref, lenD_pl, listD_pl, tupleD_pl, seqW_pl, enumW_pl, revW_pl, slD_pl, isNon_pl, addD_pl, listD_tup, listD_ref, tupleD_tup, tupleD_ref, max2D_int, min2D_int, truD_int, truD_bl, truD_tup, truD_non, seqW_tup, seqW_ref, enumW_tup, enumW_ref, revW_tup, revW_ref, rngW1_int, rngW2_int, slD_tup, slD_ref, slD_frl, popD_ref, appendD_ref, extendD_ref, setD_ref, bindG_nm, bindG_tup, bindGs_nil, bindGs_cons, ixD_ref, startD, List.map_cons, List.map_nil, List.length_cons, List.length_nil, List.cons_append, List.nil_append, List.getElem?_cons_zero, List.getElem?_cons_succ, List.set_cons_zero, List.set_cons_succ, Option.some.injEq, exists_eq_left', exists_eq_left, Option.bind_some, Nat.reduceAdd, Nat.reduceSub, List.replicate_succ, List.replicate_zero, Dt.bl.injEq, Dt.int.injEq, decide_eq_true_eq, decide_eq_false_iff_not, Bool.false_eq_true, Bool.true_eq_false, if_true, if_false, Bool.not_eq_true', Bool.not_true, Bool.not_false, bne_iff_ne, ne_eq, ixD_fr0, ixD_fr1, ixD_pair0, ixD_pair1, Dt.ref.injEq, List.cons.injEq, and_true, true_and, reduceIte, exists_eq, Nat.zero_add, Dt.tup.injEq, and_self, and_assoc, exists_and_left, fr_inj, pl_inj, ite_true, ite_false]
  refine isi_tuple h ?_
  simp only [rsFor, rLc, wipeD, rsNext, rsSeq, rsDrop, rsRet, rsRetN, rsIf, rsAsg, rsPar, rsPar3, rsAug, rsSet, rsBreak, rsCont, rVar, rC, rBin, rTru, rTest, rChain, rNeg, rNot, rAnd, rOr, rIf, rAndV, rOrV, rNotV, rNil, rCons, rTup, rLst, rNone, rSome, rSl, rCall, rCallK, rBlt, rLRev, rMeth, rMeth0, rYes, wSeq, wEnum, wRev, wRng1, wRng2, addD_int, addD_tup, addD_str, addD_ref, subD_int, mulD_int, mulD_ref, mulD_tup, fdivD_int, modD_int, powD_int, cmpD_int, isD_non, isnD_non, iaddD_int, isNon_non, isNon_int, isNon_str, isNon_tup, isNon_fr, isNon_bl, eqD_int, neD_int, absD_int, intD_int, intD_bl, lenD_tup, lenD_ref, lenD_pl, listD_pl, tupleD_pl, seqW_pl, enumW_pl, revW_pl, slD_pl, isNon_pl, addD_pl, listD_tup, listD_ref, tupleD_tup, tupleD_ref, max2D_int, min2D_int, truD_int, truD_bl, truD_tup, truD_non, seqW_tup, seqW_ref, enumW_tup, enumW_ref, revW_tup, revW_ref, rngW1_int, rngW2_int, slD_tup, slD_ref, slD_frl, popD_ref, appendD_ref, extendD_ref, setD_ref, bindG_nm, bindG_tup, bindGs_nil, bindGs_cons, ixD_ref, startD, List.map_cons, List.map_nil, List.length_cons, List.length_nil, List.cons_append, List.nil_append, List.getElem?_cons_zero, List.getElem?_cons_succ, List.set_cons_zero, List.set_cons_succ, Option.some.injEq, exists_eq_left', exists_eq_left, Option.bind_some, Nat.reduceAdd, Nat.reduceSub, List.replicate_succ, List.replicate_zero, Dt.bl.injEq, Dt.int.injEq, decide_eq_true_eq, decide_eq_false_iff_not, Bool.false_eq_true, Bool.true_eq_false, if_true, if_false, Bool.not_eq_true', Bool.not_true, Bool.not_false, bne_iff_ne, ne_eq, ixD_fr0, ixD_fr1, ixD_pair0, ixD_pair1, Dt.ref.injEq, List.cons.injEq, and_true, true_and, reduceIte, exists_eq, Nat.zero_add, Dt.tup.injEq, and_self, and_assoc, exists_and_left, fr_inj, pl_inj, ite_true, ite_false]
  by_cases hT : isT x = true
  · cases h <;> first | cases hT | skip
    rename_i us hus
    simp only [isT, rsFor, rLc, wipeD, rsNext, rsSeq, rsDrop, rsRet, rsRetN, rsIf, rsAsg, rsPar, rsPar3, rsAug, rsSet, rsBreak, rsCont, rVar, rC, rBin, rTru, rTest, rChain, rNeg, rNot, rAnd, rOr, rIf, rAndV, rOrV, rNotV, rNil, rCons, rTup, rLst, rNone, rSome, rSl, rCall, rCallK, rBlt, rLRev, rMeth, rMeth0, rYes, wSeq, wEnum, wRev, wRng1, wRng2, addD_int, addD_tup, addD_str, addD_ref, subD_int, mulD_int, mulD_ref, mulD_tup, fdivD_int, modD_int, powD_int, cmpD_int, isD_non, isnD_non, iaddD_int, isNon_non, isNon_int, isNon_str, isNon_tup, isNon_fr, isNon_bl, eqD_int, neD_int, absD_int, intD_int, intD_bl, lenD_tup, lenD_ref, lenD_pl, listD_pl, tupleD_pl, seqW_pl, enumW_pl, revW_pl, slD_pl, isNon_pl, addD_pl, listD_tup, listD_ref, tupleD_tup, tupleD_ref, max2D_int, min2D_int, truD_int, truD_bl, truD_tup, truD_non, seqW_tup, seqW_ref, enumW_tup, enumW_ref, revW_tup, revW_ref, rngW1_int, rngW2_int, slD_tup, slD_ref, slD_frl, popD_ref, appendD_ref, extendD_ref, setD_ref, bindG_nm, bindG_tup, bindGs_nil, bindGs_cons, ixD_ref, startD, List.map_cons, List.map_nil, List.length_cons, List.length_nil, List.cons_append, List.nil_append, List.getElem?_cons_zero, List.getElem?_cons_succ, List.set_cons_zero, List.set_cons_succ, Option.some.injEq, exists_eq_left', exists_eq_left, Option.bind_some, Nat.reduceAdd, Nat.reduceSub, List.replicate_succ, List.replicate_zero, Dt.bl.injEq, Dt.int.injEq, decide_eq_true_eq, decide_eq_false_iff_not, Bool.false_eq_true, Bool.true_eq_false, if_true, if_false, Bool.not_eq_true', Bool.not_true, Bool.not_false, bne_iff_ne, ne_eq, ixD_fr0, ixD_fr1, ixD_pair0, ixD_pair1, Dt.ref.injEq, List.cons.injEq, and_true, true_and, reduceIte, exists_eq, Nat.zero_add, Dt.tup.injEq, and_self, and_assoc, exists_and_left, fr_inj, pl_inj, ite_true, ite_false]
    by_cases hl : us.length = 2
    · match us, hl, hus, hQ with
      | [u, v], _, hus, hQ =>
        have hu := hus u (List.mem_cons_self ..)
        have hv := hus v (List.mem_cons_of_mem _ (List.mem_cons_self ..))
        simp only [rsFor, rLc, wipeD, rsNext, rsSeq, rsDrop, rsRet, rsRetN, rsIf, rsAsg, rsPar, rsPar3, rsAug, rsSet, rsBreak, rsCont, rVar, rC, rBin, rTru, rTest, rChain, rNeg, rNot, rAnd, rOr, rIf, rAndV, rOrV, rNotV, rNil, rCons, rTup, rLst, rNone, rSome, rSl, rCall, rCallK, rBlt, rLRev, rMeth, rMeth0, rYes, wSeq, wEnum, wRev, wRng1, wRng2, addD_int, addD_tup, addD_str, addD_ref, subD_int, mulD_int, mulD_ref, mulD_tup, fdivD_int, modD_int, powD_int, cmpD_int, isD_non, isnD_non, iaddD_int, isNon_non, isNon_int, isNon_str, isNon_tup, isNon_fr, isNon_bl, eqD_int, neD_int, absD_int, intD_int, intD_bl, lenD_tup, lenD_ref, lenD_pl, listD_pl, tupleD_pl, seqW_pl, enumW_pl, revW_pl, slD_pl, isNon_pl, addD_pl, listD_tup, listD_ref, tupleD_tup, tupleD_ref, max2D_int, min2D_int, truD_int, truD_bl, truD_tup, truD_non, seqW_tup, seqW_ref, enumW_tup, enumW_ref, revW_tup, revW_ref, rngW1_int, rngW2_int, slD_tup, slD_ref, slD_frl, popD_ref, appendD_ref, extendD_ref, setD_ref, bindG_nm, bindG_tup, bindGs_nil, bindGs_cons, ixD_ref, startD, List.map_cons, List.map_nil, List.length_cons, List.length_nil, List.cons_append, List.nil_append, List.getElem?_cons_zero, List.getElem?_cons_succ, List.set_cons_zero, List.set_cons_succ, Option.some.injEq, exists_eq_left', exists_eq_left, Option.bind_some, Nat.reduceAdd, Nat.reduceSub, List.replicate_succ, List.replicate_zero, Dt.bl.injEq, Dt.int.injEq, decide_eq_true_eq, decide_eq_false_iff_not, Bool.false_eq_true, Bool.true_eq_false, if_true, if_false, Bool.not_eq_true', Bool.not_true, Bool.not_false, bne_iff_ne, ne_eq, ixD_fr0, ixD_fr1, ixD_pair0, ixD_pair1, Dt.ref.injEq, List.cons.injEq, and_true, true_and, reduceIte, exists_eq, Nat.zero_add, Dt.tup.injEq, and_self, and_assoc, exists_and_left, fr_inj, pl_inj, ite_true, ite_false, sp_is_integer, sp_common_divisor]
        rw [if_neg (by decide)]
        refine ⟨hu, ?_⟩
        split
        · rename_i h1
          rw [ferr_form (fun z => by rw [z.1] at h1; cases h1)] at hQ
          exact rt_of hQ
        refine ⟨hv, ?_⟩
        split
        · rename_i h1
          rw [ferr_form (fun z => by rw [z.2] at h1; cases h1)] at hQ
          exact rt_of hQ
        rename_i hu1 hv1
        cases u <;> first | exact absurd rfl hu1 | skip
        cases v <;> first | exact absurd rfl hv1 | skip
        rename_i a b
        simp only [rsFor, rLc, wipeD, rsNext, rsSeq, rsDrop, rsRet, rsRetN, rsIf, rsAsg, rsPar, rsPar3, rsAug, rsSet, rsBreak, rsCont, rVar, rC, rBin, rTru, rTest, rChain, rNeg, rNot, rAnd, rOr, rIf, rAndV, rOrV, rNotV, rNil, rCons, rTup, rLst, rNone, rSome, rSl, rCall, rCallK, rBlt, rLRev, rMeth, rMeth0, rYes, wSeq, wEnum, wRev, wRng1, wRng2, addD_int, addD_tup, addD_str, addD_ref, subD_int, mulD_int, mulD_ref, mulD_tup, fdivD_int, modD_int, powD_int, cmpD_int, isD_non, isnD_non, iaddD_int, isNon_non, isNon_int, isNon_str, isNon_tup, isNon_fr, isNon_bl, eqD_int, neD_int, absD_int, intD_int, intD_bl, lenD_tup, lenD_ref, lenD_pl, listD_pl, tupleD_pl, seqW_pl, enumW_pl, revW_pl, slD_pl, isNon_pl, addD_pl, listD_tup, listD_ref, tupleD_tup, tupleD_ref, max2D_int, min2D_int, truD_int, truD_bl, truD_tup, truD_non, seqW_tup, seqW_ref, enumW_tup, enumW_ref, revW_tup, revW_ref, rngW1_int, rngW2_int, slD_tup, slD_ref, slD_frl, popD_ref, appendD_ref, extendD_ref, setD_ref, bindG_nm, bindG_tup, bindGs_nil, bindGs_cons, ixD_ref, startD, List.map_cons, List.map_nil, List.length_cons, List.length_nil, List.cons_append, List.nil_append, List.getElem?_cons_zero, List.getElem?_cons_succ, List.set_cons_zero, List.set_cons_succ, Option.some.injEq, exists_eq_left', exists_eq_left, Option.bind_some, Nat.reduceAdd, Nat.reduceSub, List.replicate_succ, List.replicate_zero, Dt.bl.injEq, Dt.int.injEq, decide_eq_true_eq, decide_eq_false_iff_not, Bool.false_eq_true, Bool.true_eq_false, if_true, if_false, Bool.not_eq_true', Bool.not_true, Bool.not_false, bne_iff_ne, ne_eq, ixD_fr0, ixD_fr1, ixD_pair0, ixD_pair1, Dt.ref.injEq, List.cons.injEq, and_true, true_and, reduceIte, exists_eq, Nat.zero_add, Dt.tup.injEq, and_self, and_assoc, exists_and_left, fr_inj, pl_inj, ite_true, ite_false]
        simp only [ferr] at hQ
        split
        · rename_i h1
          rw [if_pos h1] at hQ
          exact rt_of hQ
        · rename_i h1
          rw [if_neg h1] at hQ
          split
          · rename_i h2
            rw [if_pos h2] at hQ
            exact rt_of hQ
          · rename_i h2
            rw [if_neg h2] at hQ
            exact rt_of hQ
    · rw [ferr_len hl] at hQ
      rw [if_pos (by omega)]
      exact rt_of hQ
  · have hT : isT x = false := by simpa using hT
    rw [ferr_not hT] at hQ
    rw [if_pos hT]
    exact rt_of hQ
theorem len_fraction_error : ∀ ds S Q R, sp_fraction_error ds S Q R → ds.length = 1 := by rintro ds S Q R ⟨p, rfl, _⟩; rfl
theorem hw__law_item_fault : ∀ ds St Q R, sp__law_item_fault ds St Q R → t__law_item_fault (endsD Q R) (startD ["value", "x"] ds) St := by
  rintro ds S Q R ⟨x, rfl, h, hQ⟩
  simp only [t__law_item_fault, rsFor, rLc, wipeD, rsNext, rsSeq, rsDrop, rsRet, rsRetN, rsIf, rsAsg, rsPar, rsPar3, rsAug, rsSet, rsBreak, rsCont, rVar, rC, rBin, rTru, rTest, rChain, rNeg, rNot, rAnd, rOr, rIf, rAndV, rOrV, rNotV, rNil, rCons, rTup, rLst, rNone, rSome, rSl, rCall, rCallK, rBlt, rLRev, rMeth, rMeth0, rYes, wSeq, wEnum, wRev, wRng1, wRng2, addD_int, addD_tup, addD_str, addD_ref, subD_int, mulD_int, mulD_ref, mulD_tup, fdivD_int, modD_int, powD_int, cmpD_int, isD_non, isnD_non, iaddD_int, isNon_non, isNon_int, isNon_str, isNon_tup, isNon_fr, isNon_bl, eqD_int, neD_int, absD_int, intD_int, intD_bl, lenD_tup, lenD_ref, lenD_pl, listD_pl, tupleD_pl, seqW_pl, enumW_pl, revW_pl, slD_pl, isNon_pl, addD_pl, listD_tup, listD_ref, tupleD_tup, tupleD_ref, max2D_int, min2D_int, truD_int, truD_bl, truD_tup, truD_non, seqW_tup, seqW_ref, enumW_tup, enumW_ref, revW_tup, revW_ref, rngW1_int, rngW2_int, slD_tup, slD_ref, slD_frl, popD_ref, appendD_ref, extendD_ref, setD_ref, bindG_nm, bindG_tup, bindGs_nil, bindGs_cons, ixD_ref, startD, List.map_cons, List.map_nil, List.length_cons, List.length_nil, List.cons_append, List.nil_append, List.getElem?_cons_zero, List.getElem?_cons_succ, List.set_cons_zero, List.set_cons_succ, Option.some.injEq, exists_eq_left', exists_eq_left, Option.bind_some, Nat.reduceAdd, Nat.reduceSub, List.replicate_succ, List.replicate_zero, Dt.bl.injEq, Dt.int.injEq, decide_eq_true_eq, decide_eq_false_iff_not, Bool.false_eq_true, Bool.true_eq_false, if_true, if_false, Bool.not_eq_true', Bool.not_true, Bool.not_false, bne_iff_ne, ne_eq, ixD_fr0, ixD_fr1, ixD_pair0, ixD_pair1, Dt.ref.injEq, List.cons.injEq, and_true, true_and, reduceIte, exists_eq, Nat.zero_add, Dt.tup.injEq, and_self, and_assoc, exists_and_left, fr_inj, pl_inj, ite_true, ite_false]
  refine isi_tuple h ?_
  simp only [rsFor, rLc, wipeD, rsNext, rsSeq, rsDrop, rsRet, rsRetN, rsIf, rsAsg, rsPar, rsPar3, rsAug, rsSet, rsBreak, rsCont, rVar, rC, rBin, rTru, rTest, rChain, rNeg, rNot, rAnd, rOr, rIf, rAndV, rOrV, rNotV, rNil, rCons, rTup, rLst, rNone, rSome, rSl, rCall, rCallK, rBlt, rLRev, rMeth, rMeth0, rYes, wSeq, wEnum, wRev, wRng1, wRng2, addD_int, addD_tup, addD_str, addD_ref, subD_int, mulD_int, mulD_ref, mulD_tup, fdivD_int, modD_int, powD_int, cmpD_int, isD_non, isnD_non, iaddD_int, isNon_non, isNon_int, isNon_str, isNon_tup, isNon_fr, isNon_bl, eqD_int, neD_int, absD_int, intD_int, intD_bl, lenD_tup, lenD_ref, lenD_pl, listD_pl, tupleD_pl, seqW_pl, enumW_pl, revW_pl, slD_pl, isNon_pl, addD_pl, listD_tup, listD_ref, tupleD_tup, tupleD_ref, max2D_int, min2D_int, truD_int, truD_bl, truD_tup, truD_non, seqW_tup, seqW_ref, enumW_tup, enumW_ref, revW_tup, revW_ref, rngW1_int, rngW2_int, slD_tup, slD_ref, slD_frl, popD_ref, appendD_ref, extendD_ref, setD_ref, bindG_nm, bindG_tup, bindGs_nil, bindGs_cons, ixD_ref, startD, List.map_cons, List.map_nil, List.length_cons, List.length_nil, List.cons_append, List.nil_append, List.getElem?_cons_zero, List.getElem?_cons_succ, List.set_cons_zero, List.set_cons_succ, Option.some.injEq, exists_eq_left', exists_eq_left, Option.bind_some, Nat.reduceAdd, Nat.reduceSub, List.replicate_succ, List.replicate_zero, Dt.bl.injEq, Dt.int.injEq, decide_eq_true_eq, decide_eq_false_iff_not, Bool.false_eq_true, Bool.true_eq_false, if_true, if_false, Bool.not_eq_true', Bool.not_true, Bool.not_false, bne_iff_ne, ne_eq, ixD_fr0, ixD_fr1, ixD_pair0, ixD_pair1, Dt.ref.injEq, List.cons.injEq, and_true, true_and, reduceIte, exists_eq, Nat.zero_add, Dt.tup.injEq, and_self, and_assoc, exists_and_left, fr_inj, pl_inj, ite_true, ite_false]
  by_cases hT : isT x = true
  · cases h <;> first | cases hT | skip
    rename_i us hus
    simp only [isT, rsFor, rLc, wipeD, rsNext, rsSeq, rsDrop, rsRet, rsRetN, rsIf, rsAsg, rsPar, rsPar3, rsAug, rsSet, rsBreak, rsCont, rVar, rC, rBin, rTru, rTest, rChain, rNeg, rNot, rAnd, rOr, rIf, rAndV, rOrV, rNotV, rNil, rCons, rTup, rLst, rNone, rSome, rSl, rCall, rCallK, rBlt, rLRev, rMeth, rMeth0, rYes, wSeq, wEnum, wRev, wRng1, wRng2, addD_int, addD_tup, addD_str, addD_ref, subD_int, mulD_int, mulD_ref, mulD_tup, fdivD_int, modD_int, powD_int, cmpD_int, isD_non, isnD_non, iaddD_int, isNon_non, isNon_int, isNon_str, isNon_tup, isNon_fr, isNon_bl, eqD_int, neD_int, absD_int, intD_int, intD_bl, lenD_tup, lenD_ref, lenD_pl, listD_pl, tupleD_pl, seqW_pl, enumW_pl, revW_pl, slD_pl, isNon_pl, addD_pl, listD_tup, listD_ref, tupleD_tup, tupleD_ref, max2D_int, min2D_int, truD_int, truD_bl, truD_tup, truD_non, seqW_tup, seqW_ref, enumW_tup, enumW_ref, revW_tup, revW_ref, rngW1_int, rngW2_int, slD_tup, slD_ref, slD_frl, popD_ref, appendD_ref, extendD_ref, setD_ref, bindG_nm, bindG_tup, bindGs_nil, bindGs_cons, ixD_ref, startD, List.map_cons, List.map_nil, List.length_cons, List.length_nil, List.cons_append, List.nil_append, List.getElem?_cons_zero, List.getElem?_cons_succ, List.set_cons_zero, List.set_cons_succ, Option.some.injEq, exists_eq_left', exists_eq_left, Option.bind_some, Nat.reduceAdd, Nat.reduceSub, List.replicate_succ, List.replicate_zero, Dt.bl.injEq, Dt.int.injEq, decide_eq_true_eq, decide_eq_false_iff_not, Bool.false_eq_true, Bool.true_eq_false, if_true, if_false, Bool.not_eq_true', Bool.not_true, Bool.not_false, bne_iff_ne, ne_eq, ixD_fr0, ixD_fr1, ixD_pair0, ixD_pair1, Dt.ref.injEq, List.cons.injEq, and_true, true_and, reduceIte, exists_eq, Nat.zero_add, Dt.tup.injEq, and_self, and_assoc, exists_and_left, fr_inj, pl_inj, ite_true, ite_false]
    by_cases hl : us.length = 2
    · match us, hl, hus, hQ with
      | [u, v], _, hus, hQ =>
        have hu := hus u (List.mem_cons_self ..)
        have hv := hus v (List.mem_cons_of_mem _ (List.mem_cons_self ..))
        simp only [rsFor, rLc, wipeD, rsNext, rsSeq, rsDrop, rsRet, rsRetN, rsIf, rsAsg, rsPar, rsPar3, rsAug, rsSet, rsBreak, rsCont, rVar, rC, rBin, rTru, rTest, rChain, rNeg, rNot, rAnd, rOr, rIf, rAndV, rOrV, rNotV, rNil, rCons, rTup, rLst, rNone, rSome, rSl, rCall, rCallK, rBlt, rLRev, rMeth, rMeth0, rYes, wSeq, wEnum, wRev, wRng1, wRng2, addD_int, addD_tup, addD_str, addD_ref, subD_int, mulD_int, mulD_ref, mulD_tup, fdivD_int, modD_int, powD_int, cmpD_int, isD_non, isnD_non, iaddD_int, isNon_non, isNon_int, isNon_str, isNon_tup, isNon_fr, isNon_bl, eqD_int, neD_int, absD_int, intD_int, intD_bl, lenD_tup, lenD_ref, lenD_pl, listD_pl, tupleD_pl, seqW_pl, enumW_pl, revW_pl, slD_pl, isNon_pl, addD_pl, listD_tup, listD_ref, tupleD_tup, tupleD_ref, max2D_int, min2D_int, truD_int, truD_bl, truD_tup, truD_non, seqW_tup, seqW_ref, enumW_tup, enumW_ref, revW_tup, revW_ref, rngW1_int, rngW2_int, slD_tup, slD_ref, slD_frl, popD_ref, appendD_ref, extendD_ref, setD_ref, bindG_nm, bindG_tup, bindGs_nil, bindGs_cons, ixD_ref, startD, List.map_cons, List.map_nil, List.length_cons, List.length_nil, List.cons_append, List.nil_append, List.getElem?_cons_zero, List.getElem?_cons_succ, List.set_cons_zero, List.set_cons_succ, Option.some.injEq, exists_eq_left', exists_eq_left, Option.bind_some, Nat.reduceAdd, Nat.reduceSub, List.replicate_succ, List.replicate_zero, Dt.bl.injEq, Dt.int.injEq, decide_eq_true_eq, decide_eq_false_iff_not, Bool.false_eq_true, Bool.true_eq_false, if_true, if_false, Bool.not_eq_true', Bool.not_true, Bool.not_false, bne_iff_ne, ne_eq, ixD_fr0, ixD_fr1, ixD_pair0, ixD_pair1, Dt.ref.injEq, List.cons.injEq, and_true, true_and, reduceIte, exists_eq, Nat.zero_add, Dt.tup.injEq, and_self, and_assoc, exists_and_left, fr_inj, pl_inj, ite_true, ite_false]
        rw [if_neg (by decide)]
        intro P hP
        refine lcGo_pureJ (J := fun S' => Sub S S') (fun x => .bl (isI x)) [u, v] [] _ put_same (fun ys => ⟨trivial, by rw [put_put]; exact Sub.put hP⟩) (by show 0 + 2 ≤ sizeLine; decide) (fun x hx => ?_) ?_
        · have px : PV S x := hus x hx
          refine ⟨_, bindG_nm, fun S' Q' hS hq => ?_⟩
          have px := px.sub hS
          simp only [rsFor, rLc, wipeD, rsNext, rsSeq, rsDrop, rsRet, rsRetN, rsIf, rsAsg, rsPar, rsPar3, rsAug, rsSet, rsBreak, rsCont, rVar, rC, rBin, rTru, rTest, rChain, rNeg, rNot, rAnd, rOr, rIf, rAndV, rOrV, rNotV, rNil, rCons, rTup, rLst, rNone, rSome, rSl, rCall, rCallK, rBlt, rLRev, rMeth, rMeth0, rYes, wSeq, wEnum, wRev, wRng1, wRng2, addD_int, addD_tup, addD_str, addD_ref, subD_int, mulD_int, mulD_ref, mulD_tup, fdivD_int, modD_int, powD_int, cmpD_int, isD_non, isnD_non, iaddD_int, isNon_non, isNon_int, isNon_str, isNon_tup, isNon_fr, isNon_bl, eqD_int, neD_int, absD_int, intD_int, intD_bl, lenD_tup, lenD_ref, lenD_pl, listD_pl, tupleD_pl, seqW_pl, enumW_pl, revW_pl, slD_pl, isNon_pl, addD_pl, listD_tup, listD_ref, tupleD_tup, tupleD_ref, max2D_int, min2D_int, truD_int, truD_bl, truD_tup, truD_non, seqW_tup, seqW_ref, enumW_tup, enumW_ref, revW_tup, revW_ref, rngW1_int, rngW2_int, slD_tup, slD_ref, slD_frl, popD_ref, appendD_ref, extendD_ref, setD_ref, bindG_nm, bindG_tup, bindGs_nil, bindGs_cons, ixD_ref, startD, List.map_cons, List.map_nil, List.length_cons, List.length_nil, List.cons_append, List.nil_append, List.getElem?_cons_zero, List.getElem?_cons_succ, List.set_cons_zero, List.set_cons_succ, Option.some.injEq, exists_eq_left', exists_eq_left, Option.bind_some, Nat.reduceAdd, Nat.reduceSub, List.replicate_succ, List.replicate_zero, Dt.bl.injEq, Dt.int.injEq, decide_eq_true_eq, decide_eq_false_iff_not, Bool.false_eq_true, Bool.true_eq_false, if_true, if_false, Bool.not_eq_true', Bool.not_true, Bool.not_false, bne_iff_ne, ne_eq, ixD_fr0, ixD_fr1, ixD_pair0, ixD_pair1, Dt.ref.injEq, List.cons.injEq, and_true, true_and, reduceIte, exists_eq, Nat.zero_add, Dt.tup.injEq, and_self, and_assoc, exists_and_left, fr_inj, pl_inj, ite_true, ite_false]
          refine isi_int px ?_
          simp only [rsFor, rLc, wipeD, rsNext, rsSeq, rsDrop, rsRet, rsRetN, rsIf, rsAsg, rsPar, rsPar3, rsAug, rsSet, rsBreak, rsCont, rVar, rC, rBin, rTru, rTest, rChain, rNeg, rNot, rAnd, rOr, rIf, rAndV, rOrV, rNotV, rNil, rCons, rTup, rLst, rNone, rSome, rSl, rCall, rCallK, rBlt, rLRev, rMeth, rMeth0, rYes, wSeq, wEnum, wRev, wRng1, wRng2, addD_int, addD_tup, addD_str, addD_ref, subD_int, mulD_int, mulD_ref, mulD_tup, fdivD_int, modD_int, powD_int, cmpD_int, isD_non, isnD_non, iaddD_int, isNon_non, isNon_int, isNon_str, isNon_tup, isNon_fr, isNon_bl, eqD_int, neD_int, absD_int, intD_int, intD_bl, lenD_tup, lenD_ref, lenD_pl, listD_pl, tupleD_pl, seqW_pl, enumW_pl, revW_pl, slD_pl, isNon_pl, addD_pl, listD_tup, listD_ref, tupleD_tup, tupleD_ref, max2D_int, min2D_int, truD_int, truD_bl, truD_tup, truD_non, seqW_tup, seqW_ref, enumW_tup, enumW_ref, revW_tup, revW_ref, rngW1_int, rngW2_int, slD_tup, slD_ref, slD_frl, popD_ref, appendD_ref, extendD_ref, setD_ref, bindG_nm, bindG_tup, bindGs_nil, bindGs_cons, ixD_ref, startD, List.map_cons, List.map_nil, List.length_cons, List.length_nil, List.cons_append, List.nil_append, List.getElem?_cons_zero, List.getElem?_cons_succ, List.set_cons_zero, List.set_cons_succ, Option.some.injEq, exists_eq_left', exists_eq_left, Option.bind_some, Nat.reduceAdd, Nat.reduceSub, List.replicate_succ, List.replicate_zero, Dt.bl.injEq, Dt.int.injEq, decide_eq_true_eq, decide_eq_false_iff_not, Bool.false_eq_true, Bool.true_eq_false, if_true, if_false, Bool.not_eq_true', Bool.not_true, Bool.not_false, bne_iff_ne, ne_eq, ixD_fr0, ixD_fr1, ixD_pair0, ixD_pair1, Dt.ref.injEq, List.cons.injEq, and_true, true_and, reduceIte, exists_eq, Nat.zero_add, Dt.tup.injEq, and_self, and_assoc, exists_and_left, fr_inj, pl_inj, ite_true, ite_false]
          split
          · rename_i hy
            refine isi_bool px ?_
            simp only [rsFor, rLc, wipeD, rsNext, rsSeq, rsDrop, rsRet, rsRetN, rsIf, rsAsg, rsPar, rsPar3, rsAug, rsSet, rsBreak, rsCont, rVar, rC, rBin, rTru, rTest, rChain, rNeg, rNot, rAnd, rOr, rIf, rAndV, rOrV, rNotV, rNil, rCons, rTup, rLst, rNone, rSome, rSl, rCall, rCallK, rBlt, rLRev, rMeth, rMeth0, rYes, wSeq, wEnum, wRev, wRng1, wRng2, addD_int, addD_tup, addD_str, addD_ref, subD_int, mulD_int, mulD_ref, mulD_tup, fdivD_int, modD_int, powD_int, cmpD_int, isD_non, isnD_non, iaddD_int, isNon_non, isNon_int, isNon_str, isNon_tup, isNon_fr, isNon_bl, eqD_int, neD_int, absD_int, intD_int, intD_bl, lenD_tup, lenD_ref, lenD_pl, listD_pl, tupleD_pl, seqW_pl, enumW_pl, revW_pl, slD_pl, isNon_pl, addD_pl, listD_tup, listD_ref, tupleD_tup, tupleD_ref, max2D_int, min2D_int, truD_int, truD_bl, truD_tup, truD_non, seqW_tup, seqW_ref, enumW_tup, enumW_ref, revW_tup, revW_ref, rngW1_int, rngW2_int, slD_tup, slD_ref, slD_frl, popD_ref, appendD_ref, extendD_ref, setD_ref, bindG_nm, bindG_tup, bindGs_nil, bindGs_cons, ixD_ref, startD, List.map_cons, List.map_nil, List.length_cons, List.length_nil, List.cons_append, List.nil_append, List.getElem?_cons_zero, List.getElem?_cons_succ, List.set_cons_zero, List.set_cons_succ, Option.some.injEq, exists_eq_left', exists_eq_left, Option.bind_some, Nat.reduceAdd, Nat.reduceSub, List.replicate_succ, List.replicate_zero, Dt.bl.injEq, Dt.int.injEq, decide_eq_true_eq, decide_eq_false_iff_not, Bool.false_eq_true, Bool.true_eq_false, if_true, if_false, Bool.not_eq_true', Bool.not_true, Bool.not_false, bne_iff_ne, ne_eq, ixD_fr0, ixD_fr1, ixD_pair0, ixD_pair1, Dt.ref.injEq, List.cons.injEq, and_true, true_and, reduceIte, exists_eq, Nat.zero_add, Dt.tup.injEq, and_self, and_assoc, exists_and_left, fr_inj, pl_inj, ite_true, ite_false]
            cases px <;> first | exact absurd hy Bool.false_ne_true | exact hq
          · rename_i hn
            cases px <;> first | exact absurd rfl hn | exact hq
        · rw [put_put]
          refine ⟨[isI u, isI v], by rw [lst_same]; rfl, ?_⟩
          simp only [rsFor, rLc, wipeD, rsNext, rsSeq, rsDrop, rsRet, rsRetN, rsIf, rsAsg, rsPar, rsPar3, rsAug, rsSet, rsBreak, rsCont, rVar, rC, rBin, rTru, rTest, rChain, rNeg, rNot, rAnd, rOr, rIf, rAndV, rOrV, rNotV, rNil, rCons, rTup, rLst, rNone, rSome, rSl, rCall, rCallK, rBlt, rLRev, rMeth, rMeth0, rYes, wSeq, wEnum, wRev, wRng1, wRng2, addD_int, addD_tup, addD_str, addD_ref, subD_int, mulD_int, mulD_ref, mulD_tup, fdivD_int, modD_int, powD_int, cmpD_int, isD_non, isnD_non, iaddD_int, isNon_non, isNon_int, isNon_str, isNon_tup, isNon_fr, isNon_bl, eqD_int, neD_int, absD_int, intD_int, intD_bl, lenD_tup, lenD_ref, lenD_pl, listD_pl, tupleD_pl, seqW_pl, enumW_pl, revW_pl, slD_pl, isNon_pl, addD_pl, listD_tup, listD_ref, tupleD_tup, tupleD_ref, max2D_int, min2D_int, truD_int, truD_bl, truD_tup, truD_non, seqW_tup, seqW_ref, enumW_tup, enumW_ref, revW_tup, revW_ref, rngW1_int, rngW2_int, slD_tup, slD_ref, slD_frl, popD_ref, appendD_ref, extendD_ref, setD_ref, bindG_nm, bindG_tup, bindGs_nil, bindGs_cons, ixD_ref, startD, List.map_cons, List.map_nil, List.length_cons, List.length_nil, List.cons_append, List.nil_append, List.getElem?_cons_zero, List.getElem?_cons_succ, List.set_cons_zero, List.set_cons_succ, Option.some.injEq, exists_eq_left', exists_eq_left, Option.bind_some, Nat.reduceAdd, Nat.reduceSub, List.replicate_succ, List.replicate_zero, Dt.bl.injEq, Dt.int.injEq, decide_eq_true_eq, decide_eq_false_iff_not, Bool.false_eq_true, Bool.true_eq_false, if_true, if_false, Bool.not_eq_true', Bool.not_true, Bool.not_false, bne_iff_ne, ne_eq, ixD_fr0, ixD_fr1, ixD_pair0, ixD_pair1, Dt.ref.injEq, List.cons.injEq, and_true, true_and, reduceIte, exists_eq, Nat.zero_add, Dt.tup.injEq, and_self, and_assoc, exists_and_left, fr_inj, pl_inj, ite_true, ite_false]
          by_cases hb : isI u = true ∧ isI v = true
          · cases u <;> first | cases hb.1 | skip
            cases v <;> first | cases hb.2 | skip
            rename_i a b
            rw [if_neg (by simp [isI])]
            simp only [sp__law_gcd, sp_common_divisor, rsFor, rLc, wipeD, rsNext, rsSeq, rsDrop, rsRet, rsRetN, rsIf, rsAsg, rsPar, rsPar3, rsAug, rsSet, rsBreak, rsCont, rVar, rC, rBin, rTru, rTest, rChain, rNeg, rNot, rAnd, rOr, rIf, rAndV, rOrV, rNotV, rNil, rCons, rTup, rLst, rNone, rSome, rSl, rCall, rCallK, rBlt, rLRev, rMeth, rMeth0, rYes, wSeq, wEnum, wRev, wRng1, wRng2, addD_int, addD_tup, addD_str, addD_ref, subD_int, mulD_int, mulD_ref, mulD_tup, fdivD_int, modD_int, powD_int, cmpD_int, isD_non, isnD_non, iaddD_int, isNon_non, isNon_int, isNon_str, isNon_tup, isNon_fr, isNon_bl, eqD_int, neD_int, absD_int, intD_int, intD_bl, lenD_tup, lenD_ref, lenD_pl, listD_pl, tupleD_pl, seqW_pl, enumW_pl, revW_pl, slD_pl, isNon_pl, addD_pl, listD_tup, listD_ref, tupleD_tup, tupleD_ref, max2D_int, min2D_int, truD_int, truD_bl, truD_tup, truD_non, seqW_tup, seqW_ref, enumW_tup, enumW_ref, revW_tup, revW_ref, rngW1_int, rngW2_int, slD_tup, slD_ref, slD_frl, popD_ref, appendD_ref, extendD_ref, setD_ref, bindG_nm, bindG_tup, bindGs_nil, bindGs_cons, ixD_ref, startD, List.map_cons, List.map_nil, List.length_cons, List.length_nil, List.cons_append, List.nil_append, List.getElem?_cons_zero, List.getElem?_cons_succ, List.set_cons_zero, List.set_cons_succ, Option.some.injEq, exists_eq_left', exists_eq_left, Option.bind_some, Nat.reduceAdd, Nat.reduceSub, List.replicate_succ, List.replicate_zero, Dt.bl.injEq, Dt.int.injEq, decide_eq_true_eq, decide_eq_false_iff_not, Bool.false_eq_true, Bool.true_eq_false, if_true, if_false, Bool.not_eq_true', Bool.not_true, Bool.not_false, bne_iff_ne, ne_eq, ixD_fr0, ixD_fr1, ixD_pair0, ixD_pair1, Dt.ref.injEq, List.cons.injEq, and_true, true_and, reduceIte, exists_eq, Nat.zero_add, Dt.tup.injEq, and_self, and_assoc, exists_and_left, fr_inj, pl_inj, ite_true, ite_false]
            simp only [ferr] at hQ
            split
            · rename_i h1
              rw [if_pos h1] at hQ
              exact rt_sub hQ (Sub.put hP)
            · rename_i h1
              rw [if_neg h1] at hQ
              split
              · rename_i h2
                rw [if_pos h2] at hQ
                exact rt_sub hQ (Sub.put hP)
              · rename_i h2
                rw [if_neg h2] at hQ
                exact rt_sub hQ (Sub.put hP)
          · rw [ferr_form hb] at hQ
            rw [if_pos]
            · exact rt_sub hQ (Sub.put hP)
            · cases e1 : isI u <;> cases e2 : isI v <;> first | rfl | exact absurd ⟨e1, e2⟩ hb
    · rw [ferr_len hl] at hQ
      rw [if_pos (by omega)]
      exact rt_of hQ
  · have hT : isT x = false := by simpa using hT
    rw [ferr_not hT] at hQ
    rw [if_pos hT]
    exact rt_of hQ
theorem len__law_item_fault : ∀ ds S Q R, sp__law_item_fault ds S Q R → ds.length = 1 := len_fraction_error
/-! ### polynomials judged -/
theorem perrs_none {S : Sto} : ∀ {us : List Dt} {k : Nat}, perrs k us = none → ∀ u ∈ us, ∃ a b : Int, u = .tup [.int a, .int b] ∧ 1 ≤ b ∧ Int.gcd a b ≤ 1
  | [], _, _ => by intro u hu; cases hu
  | u :: us, k, h => by
    unfold perrs at h
    split at h
    · rename_i hn
      intro w hw
      rcases List.mem_cons.mp hw with e | hw
      · subst e
        unfold ferr at hn
        split at hn
        · rename_i a b
          split at hn
          · cases hn
          · split at hn
            · cases hn
            · exact ⟨a, b, rfl, by omega, by omega⟩
        · cases hn
      · exact perrs_none (S := S) h w hw
    · cases h
theorem loop_err {Q : QD} {R : XD → Sto → Prop} {D : EndsD} {x0 : Option Dt} {S : Sto} {tb : RS} (htb : tb = rsSeq (rsAsg (rCall sp_fraction_error (rCons (rVar 2) rNil)) (Tg.nm 3)) (rsIf (rTest (rBin isnD (rVar 3) (rC Dt.non))) (rsRet (rTup (rCons (rC (Dt.str (Str.ofString "item"))) (rCons (rVar 1) (rCons (rVar 3) rNil))))) rsNext)) (hrt : D.rt = (endsD Q R).rt) :
    ∀ (us : List Dt) (k : Nat) (x1 x2 x3 : Option Dt), (∀ u ∈ us, PV S u) → (∀ e, perrs k us = some e → Q e S) → (perrs k us = none → ∀ x1 x2 x3, D.nx [x0, x1, x2, x3] S) → forGo (.tup [.nm 1, .nm 2]) tb D (fun _ => True) (enumD k us) [x0, x1, x2, x3] S
  | [], k, x1, x2, x3, _, _, hD => ⟨trivial, hD rfl _ _ _⟩
  | u :: us, k, x1, x2, x3, hu, hQ, hD => by
    refine ⟨trivial, _, by simp only [bindG_tup, bindGs_cons, bindGs_nil, bindG_nm, Option.bind_some]; rfl, ?_⟩
    subst htb
    simp only [rsFor, rLc, wipeD, rsNext, rsSeq, rsDrop, rsRet, rsRetN, rsIf, rsAsg, rsPar, rsPar3, rsAug, rsSet, rsBreak, rsCont, rVar, rC, rBin, rTru, rTest, rChain, rNeg, rNot, rAnd, rOr, rIf, rAndV, rOrV, rNotV, rNil, rCons, rTup, rLst, rNone, rSome, rSl, rCall, rCallK, rBlt, rLRev, rMeth, rMeth0, rYes, wSeq, wEnum, wRev, wRng1, wRng2, addD_int, addD_tup, addD_str, addD_ref, subD_int, mulD_int, mulD_ref, mulD_tup, fdivD_int, modD_int, powD_int, cmpD_int, isD_non, isnD_non, iaddD_int, isNon_non, isNon_int, isNon_str, isNon_tup, isNon_fr, isNon_bl, eqD_int, neD_int, absD_int, intD_int, intD_bl, lenD_tup, lenD_ref, lenD_pl, listD_pl, tupleD_pl, seqW_pl, enumW_pl, revW_pl, slD_pl, isNon_pl, addD_pl, listD_tup, listD_ref, tupleD_tup, tupleD_ref, max2D_int, min2D_int, truD_int, truD_bl, truD_tup, truD_non, seqW_tup, seqW_ref, enumW_tup, enumW_ref, revW_tup, revW_ref, rngW1_int, rngW2_int, slD_tup, slD_ref, slD_frl, popD_ref, appendD_ref, extendD_ref, setD_ref, bindG_nm, bindG_tup, bindGs_nil, bindGs_cons, ixD_ref, startD, List.map_cons, List.map_nil, List.length_cons, List.length_nil, List.cons_append, List.nil_append, List.getElem?_cons_zero, List.getElem?_cons_succ, List.set_cons_zero, List.set_cons_succ, Option.some.injEq, exists_eq_left', exists_eq_left, Option.bind_some, Nat.reduceAdd, Nat.reduceSub, List.replicate_succ, List.replicate_zero, Dt.bl.injEq, Dt.int.injEq, decide_eq_true_eq, decide_eq_false_iff_not, Bool.false_eq_true, Bool.true_eq_false, if_true, if_false, Bool.not_eq_true', Bool.not_true, Bool.not_false, bne_iff_ne, ne_eq, ixD_fr0, ixD_fr1, ixD_pair0, ixD_pair1, Dt.ref.injEq, List.cons.injEq, and_true, true_and, reduceIte, exists_eq, Nat.zero_add, Dt.tup.injEq, and_self, and_assoc, exists_and_left, fr_inj, pl_inj, ite_true, ite_false, sp_fraction_error]
    refine ⟨hu u (List.mem_cons_self ..), ?_⟩
    cases hn : isNon (ferr u) with
    | true =>
      have e : perrs k (u :: us) = perrs (k + 1) us := by simp only [perrs, hn, if_true]
      rw [e] at hQ hD
      rw [if_neg (by decide)]
      exact loop_err rfl hrt us (k + 1) _ _ _ (fun w hw => hu w (List.mem_cons_of_mem _ hw)) hQ hD
    | false =>
      have e : perrs k (u :: us) = some (.tup [.str "item", .int (k : Nat), ferr u]) := by simp only [perrs, hn]; rfl
      rw [if_pos rfl]
      refine ⟨by decide, ?_⟩
      rw [hrt]
      exact rt_of (hQ _ e)
theorem atD_lastD {us : List Dt} (h : us ≠ []) : atD us (-1) = some (us.getLast h) := by
  have hl : 0 < us.length := List.length_pos_iff.mpr h
  have e : ixN us.length (-1) = some (us.length - 1) := by
    unfold ixN
    rw [if_neg (by decide), if_pos (by omega)]
    congr 1
    omega
  unfold atD
  rw [e, Option.bind_some, ← List.getLast?_eq_getElem?, List.getLast?_eq_some_getLast h]
theorem perr_not {x : Dt} (h : isT x = false) : perr x = .str "form" := by
  cases x <;> first | rfl | cases h
theorem last0_of {us : List Dt} (h : us ≠ []) {a b : Int} (e : us.getLast h = .tup [.int a, .int b]) : last0 us = decide (a = 0) := by
  cases us with
  | nil => exact absurd rfl h
  | cons u us =>
    simp only [last0, List.getLast?_eq_some_getLast h, e]
theorem hw_poly_error : ∀ ds St Q R, sp_poly_error ds St Q R → t_poly_error (endsD Q R) (startD ["value", "k", "item", "error"] ds) St := by
  rintro ds S Q R ⟨x, rfl, h, hQ⟩
  simp only [t_poly_error, rsFor, rLc, wipeD, rsNext, rsSeq, rsDrop, rsRet, rsRetN, rsIf, rsAsg, rsPar, rsPar3, rsAug, rsSet, rsBreak, rsCont, rVar, rC, rBin, rTru, rTest, rChain, rNeg, rNot, rAnd, rOr, rIf, rAndV, rOrV, rNotV, rNil, rCons, rTup, rLst, rNone, rSome, rSl, rCall, rCallK, rBlt, rLRev, rMeth, rMeth0, rYes, wSeq, wEnum, wRev, wRng1, wRng2, addD_int, addD_tup, addD_str, addD_ref, subD_int, mulD_int, mulD_ref, mulD_tup, fdivD_int, modD_int, powD_int, cmpD_int, isD_non, isnD_non, iaddD_int, isNon_non, isNon_int, isNon_str, isNon_tup, isNon_fr, isNon_bl, eqD_int, neD_int, absD_int, intD_int, intD_bl, lenD_tup, lenD_ref, lenD_pl, listD_pl, tupleD_pl, seqW_pl, enumW_pl, revW_pl, slD_pl, isNon_pl, addD_pl, listD_tup, listD_ref, tupleD_tup, tupleD_ref, max2D_int, min2D_int, truD_int, truD_bl, truD_tup, truD_non, seqW_tup, seqW_ref, enumW_tup, enumW_ref, revW_tup, revW_ref, rngW1_int, rngW2_int, slD_tup, slD_ref, slD_frl, popD_ref, appendD_ref, extendD_ref, setD_ref, bindG_nm, bindG_tup, bindGs_nil, bindGs_cons, ixD_ref, startD, List.map_cons, List.map_nil, List.length_cons, List.length_nil, List.cons_append, List.nil_append, List.getElem?_cons_zero, List.getElem?_cons_succ, List.set_cons_zero, List.set_cons_succ, Option.some.injEq, exists_eq_left', exists_eq_left, Option.bind_some, Nat.reduceAdd, Nat.reduceSub, List.replicate_succ, List.replicate_zero, Dt.bl.injEq, Dt.int.injEq, decide_eq_true_eq, decide_eq_false_iff_not, Bool.false_eq_true, Bool.true_eq_false, if_true, if_false, Bool.not_eq_true', Bool.not_true, Bool.not_false, bne_iff_ne, ne_eq, ixD_fr0, ixD_fr1, ixD_pair0, ixD_pair1, Dt.ref.injEq, List.cons.injEq, and_true, true_and, reduceIte, exists_eq, Nat.zero_add, Dt.tup.injEq, and_self, and_assoc, exists_and_left, fr_inj, pl_inj, ite_true, ite_false]
  refine isi_tuple h ?_
  simp only [rsFor, rLc, wipeD, rsNext, rsSeq, rsDrop, rsRet, rsRetN, rsIf, rsAsg, rsPar, rsPar3, rsAug, rsSet, rsBreak, rsCont, rVar, rC, rBin, rTru, rTest, rChain, rNeg, rNot, rAnd, rOr, rIf, rAndV, rOrV, rNotV, rNil, rCons, rTup, rLst, rNone, rSome, rSl, rCall, rCallK, rBlt, rLRev, rMeth, rMeth0, rYes, wSeq, wEnum, wRev, wRng1, wRng2, addD_int, addD_tup, addD_str, addD_ref, subD_int, mulD_int, mulD_ref, mulD_tup, fdivD_int, modD_int, powD_int, cmpD_int, isD_non, isnD_non, iaddD_int, isNon_non, isNon_int, isNon_str, isNon_tup, isNon_fr, isNon_bl, eqD_int, neD_int, absD_int, intD_int, intD_bl, lenD_tup, lenD_ref, lenD_pl, listD_pl, tupleD_pl, seqW_pl, enumW_pl, revW_pl, slD_pl, isNon_pl, addD_pl, listD_tup, listD_ref, tupleD_tup, tupleD_ref, max2D_int, min2D_int, truD_int, truD_bl, truD_tup, truD_non, seqW_tup, seqW_ref, enumW_tup, enumW_ref, revW_tup, revW_ref, rngW1_int, rngW2_int, slD_tup, slD_ref, slD_frl, popD_ref, appendD_ref, extendD_ref, setD_ref, bindG_nm, bindG_tup, bindGs_nil, bindGs_cons, ixD_ref, startD, List.map_cons, List.map_nil, List.length_cons, List.length_nil, List.cons_append, List.nil_append, List.getElem?_cons_zero, List.getElem?_cons_succ, List.set_cons_zero, List.set_cons_succ, Option.some.injEq, exists_eq_left', exists_eq_left, Option.bind_some, Nat.reduceAdd, Nat.reduceSub, List.replicate_succ, List.replicate_zero, Dt.bl.injEq, Dt.int.injEq, decide_eq_true_eq, decide_eq_false_iff_not, Bool.false_eq_true, Bool.true_eq_false, if_true, if_false, Bool.not_eq_true', Bool.not_true, Bool.not_false, bne_iff_ne, ne_eq, ixD_fr0, ixD_fr1, ixD_pair0, ixD_pair1, Dt.ref.injEq, List.cons.injEq, and_true, true_and, reduceIte, exists_eq, Nat.zero_add, Dt.tup.injEq, and_self, and_assoc, exists_and_left, fr_inj, pl_inj, ite_true, ite_false]
  by_cases hT : isT x = true
  · cases h <;> first | cases hT | skip
    rename_i us hus
    simp only [isT, rsFor, rLc, wipeD, rsNext, rsSeq, rsDrop, rsRet, rsRetN, rsIf, rsAsg, rsPar, rsPar3, rsAug, rsSet, rsBreak, rsCont, rVar, rC, rBin, rTru, rTest, rChain, rNeg, rNot, rAnd, rOr, rIf, rAndV, rOrV, rNotV, rNil, rCons, rTup, rLst, rNone, rSome, rSl, rCall, rCallK, rBlt, rLRev, rMeth, rMeth0, rYes, wSeq, wEnum, wRev, wRng1, wRng2, addD_int, addD_tup, addD_str, addD_ref, subD_int, mulD_int, mulD_ref, mulD_tup, fdivD_int, modD_int, powD_int, cmpD_int, isD_non, isnD_non, iaddD_int, isNon_non, isNon_int, isNon_str, isNon_tup, isNon_fr, isNon_bl, eqD_int, neD_int, absD_int, intD_int, intD_bl, lenD_tup, lenD_ref, lenD_pl, listD_pl, tupleD_pl, seqW_pl, enumW_pl, revW_pl, slD_pl, isNon_pl, addD_pl, listD_tup, listD_ref, tupleD_tup, tupleD_ref, max2D_int, min2D_int, truD_int, truD_bl, truD_tup, truD_non, seqW_tup, seqW_ref, enumW_tup, enumW_ref, revW_tup, revW_ref, rngW1_int, rngW2_int, slD_tup, slD_ref, slD_frl, popD_ref, appendD_ref, extendD_ref, setD_ref, bindG_nm, bindG_tup, bindGs_nil, bindGs_cons, ixD_ref, startD, List.map_cons, List.map_nil, List.length_cons, List.length_nil, List.cons_append, List.nil_append, List.getElem?_cons_zero, List.getElem?_cons_succ, List.set_cons_zero, List.set_cons_succ, Option.some.injEq, exists_eq_left', exists_eq_left, Option.bind_some, Nat.reduceAdd, Nat.reduceSub, List.replicate_succ, List.replicate_zero, Dt.bl.injEq, Dt.int.injEq, decide_eq_true_eq, decide_eq_false_iff_not, Bool.false_eq_true, Bool.true_eq_false, if_true, if_false, Bool.not_eq_true', Bool.not_true, Bool.not_false, bne_iff_ne, ne_eq, ixD_fr0, ixD_fr1, ixD_pair0, ixD_pair1, Dt.ref.injEq, List.cons.injEq, and_true, true_and, reduceIte, exists_eq, Nat.zero_add, Dt.tup.injEq, and_self, and_assoc, exists_and_left, fr_inj, pl_inj, ite_true, ite_false]
    simp only [perr] at hQ
    by_cases hl : 7 < us.length
    · rw [if_pos hl] at hQ
      rw [if_pos (by omega)]
      exact rt_of hQ
    · rw [if_neg hl] at hQ
      rw [if_neg (by omega)]
      refine loop_err (Q := Q) (R := R) rfl ?_ us 0 _ _ _ hus (fun e he => by rw [he] at hQ; exact hQ) (fun hn x1 x2 x3 => ?_)
      · rfl
      rw [hn] at hQ
      simp only [rsFor, rLc, wipeD, rsNext, rsSeq, rsDrop, rsRet, rsRetN, rsIf, rsAsg, rsPar, rsPar3, rsAug, rsSet, rsBreak, rsCont, rVar, rC, rBin, rTru, rTest, rChain, rNeg, rNot, rAnd, rOr, rIf, rAndV, rOrV, rNotV, rNil, rCons, rTup, rLst, rNone, rSome, rSl, rCall, rCallK, rBlt, rLRev, rMeth, rMeth0, rYes, wSeq, wEnum, wRev, wRng1, wRng2, addD_int, addD_tup, addD_str, addD_ref, subD_int, mulD_int, mulD_ref, mulD_tup, fdivD_int, modD_int, powD_int, cmpD_int, isD_non, isnD_non, iaddD_int, isNon_non, isNon_int, isNon_str, isNon_tup, isNon_fr, isNon_bl, eqD_int, neD_int, absD_int, intD_int, intD_bl, lenD_tup, lenD_ref, lenD_pl, listD_pl, tupleD_pl, seqW_pl, enumW_pl, revW_pl, slD_pl, isNon_pl, addD_pl, listD_tup, listD_ref, tupleD_tup, tupleD_ref, max2D_int, min2D_int, truD_int, truD_bl, truD_tup, truD_non, seqW_tup, seqW_ref, enumW_tup, enumW_ref, revW_tup, revW_ref, rngW1_int, rngW2_int, slD_tup, slD_ref, slD_frl, popD_ref, appendD_ref, extendD_ref, setD_ref, bindG_nm, bindG_tup, bindGs_nil, bindGs_cons, ixD_ref, startD, List.map_cons, List.map_nil, List.length_cons, List.length_nil, List.cons_append, List.nil_append, List.getElem?_cons_zero, List.getElem?_cons_succ, List.set_cons_zero, List.set_cons_succ, Option.some.injEq, exists_eq_left', exists_eq_left, Option.bind_some, Nat.reduceAdd, Nat.reduceSub, List.replicate_succ, List.replicate_zero, Dt.bl.injEq, Dt.int.injEq, decide_eq_true_eq, decide_eq_false_iff_not, Bool.false_eq_true, Bool.true_eq_false, if_true, if_false, Bool.not_eq_true', Bool.not_true, Bool.not_false, bne_iff_ne, ne_eq, ixD_fr0, ixD_fr1, ixD_pair0, ixD_pair1, Dt.ref.injEq, List.cons.injEq, and_true, true_and, reduceIte, exists_eq, Nat.zero_add, Dt.tup.injEq, and_self, and_assoc, exists_and_left, fr_inj, pl_inj, ite_true, ite_false]
      cases us with
      | nil => exact rt_of hQ
      | cons u us =>
        rw [if_pos (show (u :: us).isEmpty = false from rfl), ixD_tup]
        have hne : u :: us ≠ [] := by simp
        obtain ⟨a, b, e, _, _⟩ := perrs_none (S := S) hn _ (List.getLast_mem hne)
        refine ⟨_, atD_lastD hne, ?_⟩
        rw [e]
        simp only [rsFor, rLc, wipeD, rsNext, rsSeq, rsDrop, rsRet, rsRetN, rsIf, rsAsg, rsPar, rsPar3, rsAug, rsSet, rsBreak, rsCont, rVar, rC, rBin, rTru, rTest, rChain, rNeg, rNot, rAnd, rOr, rIf, rAndV, rOrV, rNotV, rNil, rCons, rTup, rLst, rNone, rSome, rSl, rCall, rCallK, rBlt, rLRev, rMeth, rMeth0, rYes, wSeq, wEnum, wRev, wRng1, wRng2, addD_int, addD_tup, addD_str, addD_ref, subD_int, mulD_int, mulD_ref, mulD_tup, fdivD_int, modD_int, powD_int, cmpD_int, isD_non, isnD_non, iaddD_int, isNon_non, isNon_int, isNon_str, isNon_tup, isNon_fr, isNon_bl, eqD_int, neD_int, absD_int, intD_int, intD_bl, lenD_tup, lenD_ref, lenD_pl, listD_pl, tupleD_pl, seqW_pl, enumW_pl, revW_pl, slD_pl, isNon_pl, addD_pl, listD_tup, listD_ref, tupleD_tup, tupleD_ref, max2D_int, min2D_int, truD_int, truD_bl, truD_tup, truD_non, seqW_tup, seqW_ref, enumW_tup, enumW_ref, revW_tup, revW_ref, rngW1_int, rngW2_int, slD_tup, slD_ref, slD_frl, popD_ref, appendD_ref, extendD_ref, setD_ref, bindG_nm, bindG_tup, bindGs_nil, bindGs_cons, ixD_ref, startD, List.map_cons, List.map_nil, List.length_cons, List.length_nil, List.cons_append, List.nil_append, List.getElem?_cons_zero, List.getElem?_cons_succ, List.set_cons_zero, List.set_cons_succ, Option.some.injEq, exists_eq_left', exists_eq_left, Option.bind_some, Nat.reduceAdd, Nat.reduceSub, List.replicate_succ, List.replicate_zero, Dt.bl.injEq, Dt.int.injEq, decide_eq_true_eq, decide_eq_false_iff_not, Bool.false_eq_true, Bool.true_eq_false, if_true, if_false, Bool.not_eq_true', Bool.not_true, Bool.not_false, bne_iff_ne, ne_eq, ixD_fr0, ixD_fr1, ixD_pair0, ixD_pair1, Dt.ref.injEq, List.cons.injEq, and_true, true_and, reduceIte, exists_eq, Nat.zero_add, Dt.tup.injEq, and_self, and_assoc, exists_and_left, fr_inj, pl_inj, ite_true, ite_false]
        have l0 := last0_of hne e
        rw [l0] at hQ
        simp only [decide_eq_true_eq] at hQ
        split
        · rename_i hz
          rw [if_pos hz] at hQ
          exact rt_of hQ
        · rename_i hz
          rw [if_neg hz] at hQ
          exact rt_of hQ
  · have hT : isT x = false := by simpa using hT
    rw [perr_not hT] at hQ
    rw [if_pos hT]
    exact rt_of hQ
theorem len_poly_error : ∀ ds S Q R, sp_poly_error ds S Q R → ds.length = 1 := by rintro ds S Q R ⟨p, rfl, _⟩; rfl
theorem gcd0 {b : Int} (h : 1 ≤ b) (h2 : Int.gcd 0 b ≤ 1) : b = 1 := by
  rw [Int.gcd_zero_left] at h2
  omega
theorem dp_pairs {S : Sto} : ∀ {us : List Dt}, (∀ u ∈ us, ∃ a b : Int, u = .tup [.int a, .int b] ∧ 1 ≤ b ∧ Int.gcd a b ≤ 1) → ∃ ps, DPs S us ps ∧ PyData.canLayAll0 ps = true ∧ PyData.depthAll ps ≤ 1 ∧ (us = [] ↔ ps = [])
  | [], _ => ⟨[], .nil, by simp [PyData.canLayAll0], by simp [PyData.depthAll], by simp⟩
  | u :: us, h => by
    obtain ⟨ps, h1, h2, h3, _⟩ := dp_pairs (S := S) (us := us) fun w hw => h w (List.mem_cons_of_mem _ hw)
    obtain ⟨a, b, rfl, _⟩ := h u (List.mem_cons_self ..)
    exact ⟨.tuple [.int a, .int b] :: ps, .cons (.tup (.cons (.int _) (.cons (.int _) .nil))) h1, by simp [PyData.canLayAll0, PyData.canLay0, h2], by simp only [PyData.depthAll, PyData.depth]; omega, by simp⟩
theorem eqR_pair {S : Sto} {a b : Int} : eqR S (.tup [.int a, .int b]) (.tup [.int 0, .int 1]) (decide (a = 0) && decide (b = 1)) := by
  refine ⟨_, _, .tup (.cons (.int a) (.cons (.int b) .nil)), .tup (.cons (.int 0) (.cons (.int 1) .nil)), by simp [SeqAt.shaped, PyData.canLay0, PyData.canLayAll0, PyData.depth, PyData.depthAll], by simp [SeqAt.shaped, PyData.canLay0, PyData.canLayAll0, PyData.depth, PyData.depthAll], ?_⟩
  simp only [PyData.eqv, PyData.eqvAll, Bool.and_true, beq_dec]
theorem hw__law_fault : ∀ ds St Q R, sp__law_fault ds St Q R → t__law_fault (endsD Q R) (startD ["value", "k", "x", "error"] ds) St := by
  rintro ds S Q R ⟨x, rfl, h, hQ⟩
  simp only [t__law_fault, rsFor, rLc, wipeD, rsNext, rsSeq, rsDrop, rsRet, rsRetN, rsIf, rsAsg, rsPar, rsPar3, rsAug, rsSet, rsBreak, rsCont, rVar, rC, rBin, rTru, rTest, rChain, rNeg, rNot, rAnd, rOr, rIf, rAndV, rOrV, rNotV, rNil, rCons, rTup, rLst, rNone, rSome, rSl, rCall, rCallK, rBlt, rLRev, rMeth, rMeth0, rYes, wSeq, wEnum, wRev, wRng1, wRng2, addD_int, addD_tup, addD_str, addD_ref, subD_int, mulD_int, mulD_ref, mulD_tup, fdivD_int, modD_int, powD_int, cmpD_int, isD_non, isnD_non, iaddD_int, isNon_non, isNon_int, isNon_str, isNon_tup, isNon_fr, isNon_bl, eqD_int, neD_int, absD_int, intD_int, intD_bl, lenD_tup, lenD_ref, lenD_pl, listD_pl, tupleD_pl, seqW_pl, enumW_pl, revW_pl, slD_pl, isNon_pl, addD_pl, listD_tup, listD_ref, tupleD_tup, tupleD_ref, max2D_int, min2D_int, truD_int, truD_bl, truD_tup, truD_non, seqW_tup, seqW_ref, enumW_tup, enumW_ref, revW_tup, revW_ref, rngW1_int, rngW2_int, slD_tup, slD_ref, slD_frl, popD_ref, appendD_ref, extendD_ref, setD_ref, bindG_nm, bindG_tup, bindGs_nil, bindGs_cons, ixD_ref, startD, List.map_cons, List.map_nil, List.length_cons, List.length_nil, List.cons_append, List.nil_append, List.getElem?_cons_zero, List.getElem?_cons_succ, List.set_cons_zero, List.set_cons_succ, Option.some.injEq, exists_eq_left', exists_eq_left, Option.bind_some, Nat.reduceAdd, Nat.reduceSub, List.replicate_succ, List.replicate_zero, Dt.bl.injEq, Dt.int.injEq, decide_eq_true_eq, decide_eq_false_iff_not, Bool.false_eq_true, Bool.true_eq_false, if_true, if_false, Bool.not_eq_true', Bool.not_true, Bool.not_false, bne_iff_ne, ne_eq, ixD_fr0, ixD_fr1, ixD_pair0, ixD_pair1, Dt.ref.injEq, List.cons.injEq, and_true, true_and, reduceIte, exists_eq, Nat.zero_add, Dt.tup.injEq, and_self, and_assoc, exists_and_left, fr_inj, pl_inj, ite_true, ite_false]
  refine isi_tuple h ?_
  simp only [rsFor, rLc, wipeD, rsNext, rsSeq, rsDrop, rsRet, rsRetN, rsIf, rsAsg, rsPar, rsPar3, rsAug, rsSet, rsBreak, rsCont, rVar, rC, rBin, rTru, rTest, rChain, rNeg, rNot, rAnd, rOr, rIf, rAndV, rOrV, rNotV, rNil, rCons, rTup, rLst, rNone, rSome, rSl, rCall, rCallK, rBlt, rLRev, rMeth, rMeth0, rYes, wSeq, wEnum, wRev, wRng1, wRng2, addD_int, addD_tup, addD_str, addD_ref, subD_int, mulD_int, mulD_ref, mulD_tup, fdivD_int, modD_int, powD_int, cmpD_int, isD_non, isnD_non, iaddD_int, isNon_non, isNon_int, isNon_str, isNon_tup, isNon_fr, isNon_bl, eqD_int, neD_int, absD_int, intD_int, intD_bl, lenD_tup, lenD_ref, lenD_pl, listD_pl, tupleD_pl, seqW_pl, enumW_pl, revW_pl, slD_pl, isNon_pl, addD_pl, listD_tup, listD_ref, tupleD_tup, tupleD_ref, max2D_int, min2D_int, truD_int, truD_bl, truD_tup, truD_non, seqW_tup, seqW_ref, enumW_tup, enumW_ref, revW_tup, revW_ref, rngW1_int, rngW2_int, slD_tup, slD_ref, slD_frl, popD_ref, appendD_ref, extendD_ref, setD_ref, bindG_nm, bindG_tup, bindGs_nil, bindGs_cons, ixD_ref, startD, List.map_cons, List.map_nil, List.length_cons, List.length_nil, List.cons_append, List.nil_append, List.getElem?_cons_zero, List.getElem?_cons_succ, List.set_cons_zero, List.set_cons_succ, Option.some.injEq, exists_eq_left', exists_eq_left, Option.bind_some, Nat.reduceAdd, Nat.reduceSub, List.replicate_succ, List.replicate_zero, Dt.bl.injEq, Dt.int.injEq, decide_eq_true_eq, decide_eq_false_iff_not, Bool.false_eq_true, Bool.true_eq_false, if_true, if_false, Bool.not_eq_true', Bool.not_true, Bool.not_false, bne_iff_ne, ne_eq, ixD_fr0, ixD_fr1, ixD_pair0, ixD_pair1, Dt.ref.injEq, List.cons.injEq, and_true, true_and, reduceIte, exists_eq, Nat.zero_add, Dt.tup.injEq, and_self, and_assoc, exists_and_left, fr_inj, pl_inj, ite_true, ite_false]
  by_cases hT : isT x = true
  · cases h <;> first | cases hT | skip
    rename_i us hus
    simp only [isT, rsFor, rLc, wipeD, rsNext, rsSeq, rsDrop, rsRet, rsRetN, rsIf, rsAsg, rsPar, rsPar3, rsAug, rsSet, rsBreak, rsCont, rVar, rC, rBin, rTru, rTest, rChain, rNeg, rNot, rAnd, rOr, rIf, rAndV, rOrV, rNotV, rNil, rCons, rTup, rLst, rNone, rSome, rSl, rCall, rCallK, rBlt, rLRev, rMeth, rMeth0, rYes, wSeq, wEnum, wRev, wRng1, wRng2, addD_int, addD_tup, addD_str, addD_ref, subD_int, mulD_int, mulD_ref, mulD_tup, fdivD_int, modD_int, powD_int, cmpD_int, isD_non, isnD_non, iaddD_int, isNon_non, isNon_int, isNon_str, isNon_tup, isNon_fr, isNon_bl, eqD_int, neD_int, absD_int, intD_int, intD_bl, lenD_tup, lenD_ref, lenD_pl, listD_pl, tupleD_pl, seqW_pl, enumW_pl, revW_pl, slD_pl, isNon_pl, addD_pl, listD_tup, listD_ref, tupleD_tup, tupleD_ref, max2D_int, min2D_int, truD_int, truD_bl, truD_tup, truD_non, seqW_tup, seqW_ref, enumW_tup, enumW_ref, revW_tup, revW_ref, rngW1_int, rngW2_int, slD_tup, slD_ref, slD_frl, popD_ref, appendD_ref, extendD_ref, setD_ref, bindG_nm, bindG_tup, bindGs_nil, bindGs_cons, ixD_ref, startD, List.map_cons, List.map_nil, List.length_cons, List.length_nil, List.cons_append, List.nil_append, List.getElem?_cons_zero, List.getElem?_cons_succ, List.set_cons_zero, List.set_cons_succ, Option.some.injEq, exists_eq_left', exists_eq_left, Option.bind_some, Nat.reduceAdd, Nat.reduceSub, List.replicate_succ, List.replicate_zero, Dt.bl.injEq, Dt.int.injEq, decide_eq_true_eq, decide_eq_false_iff_not, Bool.false_eq_true, Bool.true_eq_false, if_true, if_false, Bool.not_eq_true', Bool.not_true, Bool.not_false, bne_iff_ne, ne_eq, ixD_fr0, ixD_fr1, ixD_pair0, ixD_pair1, Dt.ref.injEq, List.cons.injEq, and_true, true_and, reduceIte, exists_eq, Nat.zero_add, Dt.tup.injEq, and_self, and_assoc, exists_and_left, fr_inj, pl_inj, ite_true, ite_false]
    simp only [perr] at hQ
    by_cases hl : 7 < us.length
    · rw [if_pos hl] at hQ
      rw [if_pos (by omega)]
      exact rt_of hQ
    · rw [if_neg hl] at hQ
      rw [if_neg (by omega)]
      refine loop_err (Q := Q) (R := R) rfl ?_ us 0 _ _ _ hus (fun e he => by rw [he] at hQ; exact hQ) (fun hn x1 x2 x3 => ?_)
      · rfl
      rw [hn] at hQ
      simp only [rsFor, rLc, wipeD, rsNext, rsSeq, rsDrop, rsRet, rsRetN, rsIf, rsAsg, rsPar, rsPar3, rsAug, rsSet, rsBreak, rsCont, rVar, rC, rBin, rTru, rTest, rChain, rNeg, rNot, rAnd, rOr, rIf, rAndV, rOrV, rNotV, rNil, rCons, rTup, rLst, rNone, rSome, rSl, rCall, rCallK, rBlt, rLRev, rMeth, rMeth0, rYes, wSeq, wEnum, wRev, wRng1, wRng2, addD_int, addD_tup, addD_str, addD_ref, subD_int, mulD_int, mulD_ref, mulD_tup, fdivD_int, modD_int, powD_int, cmpD_int, isD_non, isnD_non, iaddD_int, isNon_non, isNon_int, isNon_str, isNon_tup, isNon_fr, isNon_bl, eqD_int, neD_int, absD_int, intD_int, intD_bl, lenD_tup, lenD_ref, lenD_pl, listD_pl, tupleD_pl, seqW_pl, enumW_pl, revW_pl, slD_pl, isNon_pl, addD_pl, listD_tup, listD_ref, tupleD_tup, tupleD_ref, max2D_int, min2D_int, truD_int, truD_bl, truD_tup, truD_non, seqW_tup, seqW_ref, enumW_tup, enumW_ref, revW_tup, revW_ref, rngW1_int, rngW2_int, slD_tup, slD_ref, slD_frl, popD_ref, appendD_ref, extendD_ref, setD_ref, bindG_nm, bindG_tup, bindGs_nil, bindGs_cons, ixD_ref, startD, List.map_cons, List.map_nil, List.length_cons, List.length_nil, List.cons_append, List.nil_append, List.getElem?_cons_zero, List.getElem?_cons_succ, List.set_cons_zero, List.set_cons_succ, Option.some.injEq, exists_eq_left', exists_eq_left, Option.bind_some, Nat.reduceAdd, Nat.reduceSub, List.replicate_succ, List.replicate_zero, Dt.bl.injEq, Dt.int.injEq, decide_eq_true_eq, decide_eq_false_iff_not, Bool.false_eq_true, Bool.true_eq_false, if_true, if_false, Bool.not_eq_true', Bool.not_true, Bool.not_false, bne_iff_ne, ne_eq, ixD_fr0, ixD_fr1, ixD_pair0, ixD_pair1, Dt.ref.injEq, List.cons.injEq, and_true, true_and, reduceIte, exists_eq, Nat.zero_add, Dt.tup.injEq, and_self, and_assoc, exists_and_left, fr_inj, pl_inj, ite_true, ite_false]
      have pn := perrs_none (S := S) hn
      obtain ⟨ps, p1, p2, p3, p4⟩ := dp_pairs (S := S) pn
      have e0 : eqR S (.tup us) (.tup []) (decide (us = [])) := by
        refine ⟨_, _, .tup p1, .tup .nil, by simp [SeqAt.shaped, PyData.canLay0, PyData.depth, p2]; omega, by simp [SeqAt.shaped, PyData.canLay0, PyData.canLayAll0, PyData.depth, PyData.depthAll], ?_⟩
        cases us with
        | nil => rw [p4.mp rfl]; simp [PyData.eqv, PyData.eqvAll]
        | cons u us =>
          cases ps with
          | nil => exact absurd (p4.mpr rfl) (by simp)
          | cons p ps => simp [PyData.eqv, PyData.eqvAll]
      refine ⟨by decide, neD_of e0 ?_⟩
      simp only [rsFor, rLc, wipeD, rsNext, rsSeq, rsDrop, rsRet, rsRetN, rsIf, rsAsg, rsPar, rsPar3, rsAug, rsSet, rsBreak, rsCont, rVar, rC, rBin, rTru, rTest, rChain, rNeg, rNot, rAnd, rOr, rIf, rAndV, rOrV, rNotV, rNil, rCons, rTup, rLst, rNone, rSome, rSl, rCall, rCallK, rBlt, rLRev, rMeth, rMeth0, rYes, wSeq, wEnum, wRev, wRng1, wRng2, addD_int, addD_tup, addD_str, addD_ref, subD_int, mulD_int, mulD_ref, mulD_tup, fdivD_int, modD_int, powD_int, cmpD_int, isD_non, isnD_non, iaddD_int, isNon_non, isNon_int, isNon_str, isNon_tup, isNon_fr, isNon_bl, eqD_int, neD_int, absD_int, intD_int, intD_bl, lenD_tup, lenD_ref, lenD_pl, listD_pl, tupleD_pl, seqW_pl, enumW_pl, revW_pl, slD_pl, isNon_pl, addD_pl, listD_tup, listD_ref, tupleD_tup, tupleD_ref, max2D_int, min2D_int, truD_int, truD_bl, truD_tup, truD_non, seqW_tup, seqW_ref, enumW_tup, enumW_ref, revW_tup, revW_ref, rngW1_int, rngW2_int, slD_tup, slD_ref, slD_frl, popD_ref, appendD_ref, extendD_ref, setD_ref, bindG_nm, bindG_tup, bindGs_nil, bindGs_cons, ixD_ref, startD, List.map_cons, List.map_nil, List.length_cons, List.length_nil, List.cons_append, List.nil_append, List.getElem?_cons_zero, List.getElem?_cons_succ, List.set_cons_zero, List.set_cons_succ, Option.some.injEq, exists_eq_left', exists_eq_left, Option.bind_some, Nat.reduceAdd, Nat.reduceSub, List.replicate_succ, List.replicate_zero, Dt.bl.injEq, Dt.int.injEq, decide_eq_true_eq, decide_eq_false_iff_not, Bool.false_eq_true, Bool.true_eq_false, if_true, if_false, Bool.not_eq_true', Bool.not_true, Bool.not_false, bne_iff_ne, ne_eq, ixD_fr0, ixD_fr1, ixD_pair0, ixD_pair1, Dt.ref.injEq, List.cons.injEq, and_true, true_and, reduceIte, exists_eq, Nat.zero_add, Dt.tup.injEq, and_self, and_assoc, exists_and_left, fr_inj, pl_inj, ite_true, ite_false]
      cases us with
      | nil =>
        rw [if_neg (by simp)]
        exact rt_of hQ
      | cons u us =>
        have hne : u :: us ≠ [] := by simp
        rw [if_pos hne]
        obtain ⟨a, b, e, b1, g1⟩ := pn _ (List.getLast_mem hne)
        rw [ixD_tup]
        refine ⟨_, atD_lastD hne, by decide, ?_⟩
        rw [e]
        refine eqD_of eqR_pair ?_
        simp only [rsFor, rLc, wipeD, rsNext, rsSeq, rsDrop, rsRet, rsRetN, rsIf, rsAsg, rsPar, rsPar3, rsAug, rsSet, rsBreak, rsCont, rVar, rC, rBin, rTru, rTest, rChain, rNeg, rNot, rAnd, rOr, rIf, rAndV, rOrV, rNotV, rNil, rCons, rTup, rLst, rNone, rSome, rSl, rCall, rCallK, rBlt, rLRev, rMeth, rMeth0, rYes, wSeq, wEnum, wRev, wRng1, wRng2, addD_int, addD_tup, addD_str, addD_ref, subD_int, mulD_int, mulD_ref, mulD_tup, fdivD_int, modD_int, powD_int, cmpD_int, isD_non, isnD_non, iaddD_int, isNon_non, isNon_int, isNon_str, isNon_tup, isNon_fr, isNon_bl, eqD_int, neD_int, absD_int, intD_int, intD_bl, lenD_tup, lenD_ref, lenD_pl, listD_pl, tupleD_pl, seqW_pl, enumW_pl, revW_pl, slD_pl, isNon_pl, addD_pl, listD_tup, listD_ref, tupleD_tup, tupleD_ref, max2D_int, min2D_int, truD_int, truD_bl, truD_tup, truD_non, seqW_tup, seqW_ref, enumW_tup, enumW_ref, revW_tup, revW_ref, rngW1_int, rngW2_int, slD_tup, slD_ref, slD_frl, popD_ref, appendD_ref, extendD_ref, setD_ref, bindG_nm, bindG_tup, bindGs_nil, bindGs_cons, ixD_ref, startD, List.map_cons, List.map_nil, List.length_cons, List.length_nil, List.cons_append, List.nil_append, List.getElem?_cons_zero, List.getElem?_cons_succ, List.set_cons_zero, List.set_cons_succ, Option.some.injEq, exists_eq_left', exists_eq_left, Option.bind_some, Nat.reduceAdd, Nat.reduceSub, List.replicate_succ, List.replicate_zero, Dt.bl.injEq, Dt.int.injEq, decide_eq_true_eq, decide_eq_false_iff_not, Bool.false_eq_true, Bool.true_eq_false, if_true, if_false, Bool.not_eq_true', Bool.not_true, Bool.not_false, bne_iff_ne, ne_eq, ixD_fr0, ixD_fr1, ixD_pair0, ixD_pair1, Dt.ref.injEq, List.cons.injEq, and_true, true_and, reduceIte, exists_eq, Nat.zero_add, Dt.tup.injEq, and_self, and_assoc, exists_and_left, fr_inj, pl_inj, ite_true, ite_false]
        have l0 := last0_of hne e
        rw [l0] at hQ
        simp only [decide_eq_true_eq] at hQ
        by_cases hz : a = 0
        · rw [if_pos hz] at hQ
          subst hz
          have := gcd0 b1 g1
          subst this
          rw [if_pos (by decide)]
          exact rt_of hQ
        · rw [if_neg hz] at hQ
          rw [if_neg (by simp [hz])]
          exact rt_of hQ
  · have hT : isT x = false := by simpa using hT
    rw [perr_not hT] at hQ
    rw [if_pos hT]
    exact rt_of hQ
theorem len__law_fault : ∀ ds S Q R, sp__law_fault ds S Q R → ds.length = 1 := len_poly_error
/-- what an error shows -/
theorem ferr_ni {S : Sto} {x : Dt} : ∃ p, Ni S 1 20 (ferr x) p := by
  unfold ferr
  split
  · split
    · exact ⟨_, Ni.str (by decide +kernel) (by decide +kernel) (by decide +kernel)⟩
    · split
      · exact ⟨_, Ni.str (by decide +kernel) (by decide +kernel) (by decide +kernel)⟩
      · exact ⟨_, Ni.non.mono (Nat.le_refl _) (by omega)⟩
  · exact ⟨_, Ni.str (by decide +kernel) (by decide +kernel) (by decide +kernel)⟩
theorem perrs_ni {S : Sto} : ∀ {us : List Dt} {k : Nat} {e : Dt}, k + us.length ≤ 1000 → perrs k us = some e → ∃ p, Ni S 4 100 e p
  | [], _, _, _, h => by cases h
  | u :: us, k, e, hk, h => by
    rw [List.length_cons] at hk
    unfold perrs at h
    split at h
    · exact perrs_ni (by omega) h
    · cases h
      obtain ⟨p, hp⟩ := ferr_ni (S := S) (x := u)
      have hk' : ((k : Nat) : Int).natAbs.log2 < 1920 := log2_lt (k := 1920) (Nat.lt_of_lt_of_le (show ((k : Nat) : Int).natAbs < 2 ^ 10 by omega) (Nat.pow_le_pow_right (by omega) (by omega))) (by omega)
      have h1 : Ni S 1 20 (.str "item") (.str "item") := Ni.str (by decide +kernel) (by decide +kernel) (by decide +kernel)
      exact ⟨_, (Ni.tup (.cons h1 (.cons (Ni.int hk') (.cons hp .nil)))).mono (by omega) (by omega)⟩
theorem perr_ni {S : Sto} {x : Dt} : ∃ p, Ni S 4 100 (perr x) p := by
  unfold perr
  split
  · split
    · exact ⟨_, Ni.str (by decide +kernel) (by decide +kernel) (by decide +kernel)⟩
    · rename_i us hl
      split
      · rename_i e he
        exact perrs_ni (us := us) (k := 0) (by omega) he
      · split
        · exact ⟨_, Ni.str (by decide +kernel) (by decide +kernel) (by decide +kernel)⟩
        · exact ⟨_, (Ni.non (n := 4)).mono (Nat.le_refl _) (by omega)⟩
  · exact ⟨_, Ni.str (by decide +kernel) (by decide +kernel) (by decide +kernel)⟩
end Ev

namespace Ev
open PySem PySem.Spec PyProof.Rows L2
theorem seq_step {t u : RS} {D : EndsD} {σ : Slo} {S : Sto} : rsSeq t u D σ S = t { nx := u D, rt := D.rt, bk := D.bk, ct := D.ct, ex := D.ex } σ S := rfl
/-! ### bounded polynomials -/
structure BP (D M n : Nat) (p : List Rat) : Prop where
  tr : trim p = p
  ln : p.length ≤ n
  wl : WL D M p
section
variable {D E M N n m : Nat} {p q : List Rat}
theorem BP.mono (h : BP D M n p) {M' n' : Nat} (h1 : M ≤ M') (h2 : n ≤ n') : BP D M' n' p := ⟨h.tr, Nat.le_trans h.ln h2, h.wl.mono h1⟩
theorem BP.up (h : BP D M n p) : BP (D * E) M n p := ⟨h.tr, h.ln, h.wl.up⟩
theorem BP.nil : BP D M n [] := ⟨rfl, Nat.zero_le _, .nil⟩
theorem BP.add (h : BP D M n p) (k : BP D N m q) : BP D (M + N) (max n m) (pAdd p q) :=
  ⟨trim_trim _, Nat.le_trans (trim_len _) (by rw [addR_len]; have := h.ln; have := k.ln; omega), (WL.addR h.wl k.wl).trim⟩
theorem BP.mul (h : BP D M n p) (k : BP E N m q) : BP (D * E) (n * (M * N)) (n + m) (pMul p q) :=
  ⟨trim_trim _, Nat.le_trans (trim_len _) (Nat.le_trans (mulR_len _ _) (Nat.add_le_add h.ln k.ln)), ((WL.mulR k.wl h.wl).mono (Nat.mul_le_mul_right _ h.ln)).trim⟩
theorem BP.slope (h : BP D M n p) : BP D (n * M) n (slope p) :=
  ⟨slope_trim h.tr, by rw [slope_len]; have := h.ln; omega, WL.slope h.wl h.ln⟩
theorem BP.scale {f : Rat} (hf : W D M f) (h : BP E N n p) : BP (D * E) (M * N) n (pScale f p) :=
  ⟨trim_trim _, Nat.le_trans (trim_len _) (by rw [List.length_map]; exact h.ln), (WL.scale hf h.wl).trim⟩
def Sm (D M : Nat) : Prop := 0 < D ∧ D < 2 ^ 1900 ∧ M * D < 2 ^ 1900
theorem BP.sz (h : BP D M n p) (s : Sm D M) : ∀ a ∈ p, Sz 1900 a := fun a ha => (h.wl a ha).sz s.1 s.2.1 s.2.2
theorem BP.sz4 (h : BP D M n p) (s : Sm D M) : ∀ a ∈ p, Sz 4000 a := fun a ha => sz_mono (h.sz s a ha) (by omega)
theorem BP.fit (h : BP D M n p) (s : Sm D M) (hn : n ≤ 25) : FitP p := ⟨Nat.le_trans h.ln hn, fun a ha => sz_mono (h.sz s a ha) (by omega)⟩
theorem BP.addPre (h : BP D M n p) (k : BP D N m q) (s : Sm D (M + N)) (hn : max n m ≤ 25) : AddPre p q :=
  have s1 : Sm D M := ⟨s.1, s.2.1, Nat.lt_of_le_of_lt (Nat.mul_le_mul_right _ (Nat.le_add_right _ _)) s.2.2⟩
  have s2 : Sm D N := ⟨s.1, s.2.1, Nat.lt_of_le_of_lt (Nat.mul_le_mul_right _ (Nat.le_add_left _ _)) s.2.2⟩
  ⟨⟨h.sz4 s1, k.sz4 s2⟩, (h.add k).fit s hn⟩
theorem BP.mulPre (h : BP D M n p) (k : BP E N m q) (hn : n ≤ 25) (hm : m ≤ 25) (h1 : 0 < D) (h2 : 0 < E) (h3 : 0 < M) (h4 : 0 < N) (h5 : D * E < 2 ^ 1900) (h6 : 700 * (M * N) * (D * E) < 2 ^ 1900) : MulPre p q :=
  ⟨D, M, E, N, h.wl, k.wl, Nat.le_trans h.ln hn, Nat.le_trans k.ln hm, h1, h2, h3, h4, h5, h6⟩
theorem BP.atPre {t : Rat} (h : BP D M n p) (ht : W E N t) (hn : n ≤ 25) (h1 : 0 < D) (h2 : 0 < E) (h3 : 1 ≤ N) (h4 : D * E ^ 25 < 2 ^ 1900) (h5 : 25 * (M * N ^ 25) * (D * E ^ 25) < 2 ^ 1900) (h6 : N * E < 2 ^ 1900) (h7 : M * D < 2 ^ 1900) : AtPre p t :=
  ⟨D, M, E, N, h.wl, ht, Nat.le_trans h.ln hn, h1, h2, h3, h4, h5, h6, h7⟩
end
/-! ### what is drawn -/
theorem W.divInt {D M : Nat} {x y : Int} (hy : 0 < y) (hd : y.toNat ∣ D) (hx : x.natAbs ≤ M) : W D M (Rat.divInt x y) := by
  obtain ⟨e, he⟩ := hd
  have hy' : (y.toNat : Int) = y := by omega
  refine ⟨x * e, ?_, ?_⟩
  · have h1 : ((D : Nat) : Rat) = (y : Rat) * (e : Rat) := by
      rw [he]
      have : ((y.toNat * e : Nat) : Rat) = ((y.toNat : Int) : Rat) * (e : Rat) := by exact_mod_cast rfl
      rw [this, hy']
    have h2 : Rat.divInt x y * (y : Rat) = (x : Rat) := by
      have h4 := Rat.divInt_mul_divInt x y (d₁ := y) (d₂ := 1)
      rw [divInt_one'] at h4
      rw [h4, Int.mul_one, Int.mul_comm]
      have := Rat.divInt_mul_left (n := x) (d := 1) (a := y) (by omega)
      rw [Int.mul_one] at this
      rw [this, divInt_one']
    have h3 : ((x * (e : Int) : Int) : Rat) = (x : Rat) * (e : Rat) := by exact_mod_cast rfl
    rw [h1, h3, ← h2]; grind
  · rw [Int.natAbs_mul, Int.natAbs_natCast]
    have h1 : 1 ≤ y.toNat := by omega
    have : e ≤ D := by rw [he]; exact Nat.le_mul_of_pos_left _ h1
    exact Nat.mul_le_mul hx this
theorem Keep.putN {a b P : Addr} {S S' : Sto} {o : Ob} (h : Keep a b S S') (hP : S P = none) : Keep a b S (put S' P o) := fun c ob n m e => by
  rw [put_ne (fun z => by rw [z, hP] at e; cases e)]
  exact h c ob n m e
theorem small_lt : ∀ {n : Int}, n ≤ 1000 → n < 2 ^ 1000 := fun h => Int.lt_of_le_of_lt h (by decide)
theorem draw_of {S : Sto} {Q : QD} {R : XD → Sto → Prop} {a b : Addr} {n : Int} (hB : BagAt S a b) (h0 : 0 < n) (h1 : n ≤ 1000) (h : ∀ v S', 0 ≤ v → v < n → BagAt S' a b → Keep a b S S' → Q (.int v) S') : sp__law_draw [.ref a, .int n] S Q R :=
  ⟨a, b, n, rfl, ⟨hB, h0, small_lt h1⟩, h⟩
theorem pick_new {S : Sto} {Q : QD} {R : XD → Sto → Prop} {a b p : Addr} {xs : List Dt} (hB : BagAt S a b) (hp : S p = none) (h0 : 0 < xs.length) (h1 : xs.length ≤ 1000) (h : ∀ S' d, d ∈ xs → BagAt S' a b → Keep a b S S' → Q d S') : sp__law_pick [.ref a, .ref p] (put S p (.lst xs)) Q R := by
  obtain ⟨n1, n2⟩ := hB.nep hp
  exact ⟨a, b, .ref p, xs, rfl, ⟨hB.new hp, h0, h1, .inr ⟨p, rfl, n1, n2, put_same⟩⟩, fun S' d hd B K => h S' d hd B ((Keep.new hp).trans K)⟩
end Ev

namespace Ev
open PySem PySem.Spec PyProof.Rows L2
abbrev D0 : Nat := 60000000
abbrev M0 : Nat := 1000000000000
def sp__law_small : SpD := fun ds S Q _ => ∃ a b : Addr, ds = [.ref a] ∧ BagAt S a b ∧ ∀ q S', W 12 6 q → BagAt S' a b → Keep a b S S' → Q (fr q) S'
def sp__law_fraction : SpD := fun ds S Q _ => ∃ a b : Addr, ds = [.ref a] ∧ BagAt S a b ∧ ∀ q S', W D0 M0 q → BagAt S' a b → Keep a b S S' → Q (fr q) S'
def sp__law_poly : SpD := fun ds S Q _ => ∃ (a b : Addr) (n : Int), ds = [.ref a, .int n] ∧ (BagAt S a b ∧ 0 ≤ n ∧ n ≤ 100) ∧ ∀ p S', BP 12 6 n.toNat p → BagAt S' a b → Keep a b S S' → Q (pl p) S'
def t__law_fraction : RS := rsSeq (rsAsg (rCall sp__law_draw (rCons (rVar 0) (rCons (rC (Dt.int 12)) rNil))) (Tg.nm 1)) (rsSeq (rsIf (rTest (rBin eqD (rVar 1) (rC (Dt.int 0)))) (rsRet (rTup (rCons (rC (Dt.int 0)) (rCons (rC (Dt.int 1)) rNil)))) rsNext) (rsSeq (rsIf (rTest (rBin eqD (rVar 1) (rC (Dt.int 1)))) (rsRet (rCall sp__law_frac (rCons (rBin mulD (rCall sp__law_pick (rCons (rVar 0) (rCons (rLst (rCons (rC (Dt.int 1)) (rCons (rNeg (rC (Dt.int 1))) rNil))) rNil))) (rBin subD (rBin powD (rC (Dt.int 10)) (rC (Dt.int 12))) (rCall sp__law_draw (rCons (rVar 0) (rCons (rC (Dt.int 3)) rNil))))) (rCons (rCall sp__law_pick (rCons (rVar 0) (rCons (rLst (rCons (rC (Dt.int 1)) (rCons (rBin powD (rC (Dt.int 10)) (rC (Dt.int 6))) rNil))) rNil))) rNil)))) rsNext) (rsRet (rCall sp__law_frac (rCons (rBin subD (rCall sp__law_draw (rCons (rVar 0) (rCons (rC (Dt.int 19)) rNil))) (rC (Dt.int 9))) (rCons (rBin addD (rC (Dt.int 1)) (rCall sp__law_draw (rCons (rVar 0) (rCons (rC (Dt.int 6)) rNil)))) rNil))))))
def t__law_small : RS := rsRet (rCall sp__law_frac (rCons (rBin subD (rCall sp__law_draw (rCons (rVar 0) (rCons (rC (Dt.int 13)) rNil))) (rC (Dt.int 6))) (rCons (rBin addD (rC (Dt.int 1)) (rCall sp__law_draw (rCons (rVar 0) (rCons (rC (Dt.int 4)) rNil)))) rNil)))
def t__law_poly : RS := rsSeq (rsAsg (rLc (wRng1 (rCons (rCall sp__law_draw (rCons (rVar 0) (rCons (rBin addD (rVar 1) (rC (Dt.int 1))) rNil))) rNil)) (Tg.nm 3) rYes (rIf (rTest (rBin (cmpD fun i j => decide (j < i)) (rCall sp__law_draw (rCons (rVar 0) (rCons (rC (Dt.int 4)) rNil))) (rC (Dt.int 0)))) (rCall sp__law_small (rCons (rVar 0) rNil)) (rTup (rCons (rC (Dt.int 0)) (rCons (rC (Dt.int 1)) rNil)))) [3]) (Tg.nm 2)) (rsRet (rCall sp__law_trim (rCons (rVar 2) rNil)))
theorem dvd12 {y : Int} (h0 : 1 ≤ y) (h1 : y ≤ 4) : y.toNat ∣ 12 := by
  have : y = 1 ∨ y = 2 ∨ y = 3 ∨ y = 4 := by omega
  rcases this with e | e | e | e <;> subst e <;> decide
theorem dvdD0 {y : Int} (h0 : 1 ≤ y) (h1 : y ≤ 6) : y.toNat ∣ D0 := by
  have : y = 1 ∨ y = 2 ∨ y = 3 ∨ y = 4 ∨ y = 5 ∨ y = 6 := by omega
  rcases this with e | e | e | e | e | e <;> subst e <;> decide
theorem hw__law_small : ∀ ds St Q R, sp__law_small ds St Q R → t__law_small (endsD Q R) (startD ["bag"] ds) St := by
  rintro ds S Q R ⟨a, b, rfl, hB, hQ⟩
  simp only [t__law_small, sp__law_draw, sp__law_frac, rsFor, rLc, wipeD, rsNext, rsSeq, rsDrop, rsRet, rsRetN, rsIf, rsAsg, rsPar, rsPar3, rsAug, rsSet, rsBreak, rsCont, rVar, rC, rBin, rTru, rTest, rChain, rNeg, rNot, rAnd, rOr, rIf, rAndV, rOrV, rNotV, rNil, rCons, rTup, rLst, rNone, rSome, rSl, rCall, rCallK, rBlt, rLRev, rMeth, rMeth0, rYes, wSeq, wEnum, wRev, wRng1, wRng2, addD_int, addD_tup, addD_str, addD_ref, subD_int, mulD_int, mulD_ref, mulD_tup, fdivD_int, modD_int, powD_int, cmpD_int, isD_non, isnD_non, iaddD_int, isNon_non, isNon_int, isNon_str, isNon_tup, isNon_fr, isNon_bl, eqD_int, neD_int, absD_int, intD_int, intD_bl, lenD_tup, lenD_ref, lenD_pl, listD_pl, tupleD_pl, seqW_pl, enumW_pl, revW_pl, slD_pl, isNon_pl, addD_pl, listD_tup, listD_ref, tupleD_tup, tupleD_ref, max2D_int, min2D_int, truD_int, truD_bl, truD_tup, truD_non, seqW_tup, seqW_ref, enumW_tup, enumW_ref, revW_tup, revW_ref, rngW1_int, rngW2_int, slD_tup, slD_ref, slD_frl, popD_ref, appendD_ref, extendD_ref, setD_ref, bindG_nm, bindG_tup, bindGs_nil, bindGs_cons, ixD_ref, startD, List.map_cons, List.map_nil, List.length_cons, List.length_nil, List.cons_append, List.nil_append, List.getElem?_cons_zero, List.getElem?_cons_succ, List.set_cons_zero, List.set_cons_succ, Option.some.injEq, exists_eq_left', exists_eq_left, Option.bind_some, Nat.reduceAdd, Nat.reduceSub, List.replicate_succ, List.replicate_zero, Dt.bl.injEq, Dt.int.injEq, decide_eq_true_eq, decide_eq_false_iff_not, Bool.false_eq_true, Bool.true_eq_false, if_true, if_false, Bool.not_eq_true', Bool.not_true, Bool.not_false, bne_iff_ne, ne_eq, ixD_fr0, ixD_fr1, ixD_pair0, ixD_pair1, Dt.ref.injEq, List.cons.injEq, and_true, true_and, reduceIte, exists_eq, Nat.zero_add, Dt.tup.injEq, and_self, and_assoc, exists_and_left, fr_inj, pl_inj, ite_true, ite_false]
  refine ⟨b, hB, by decide, small_lt (by decide), fun v S1 v0 v1 B1 K1 => ⟨b, B1, by decide, small_lt (by decide), fun w S2 w0 w1 B2 K2 => ⟨by omega, ?_, rt_of ?_⟩⟩⟩
  · exact log2_lt (Nat.lt_of_lt_of_le (show (1 + w).natAbs < 2 ^ 4 by omega) (Nat.pow_le_pow_right (by omega) (by omega))) (by omega)
  · exact hQ _ _ (W.divInt (by omega) (dvd12 (by omega) (by omega)) (by omega)) B2 (K1.trans K2)
theorem len__law_small : ∀ ds S Q R, sp__law_small ds S Q R → ds.length = 1 := by rintro ds S Q R ⟨a, b, rfl, _⟩; rfl
theorem frac_of {S : Sto} {Q : QD} {R : XD → Sto → Prop} {x y : Int} (h0 : 0 < y) (h1 : y ≤ 1000000000) (h : Q (fr (Rat.divInt x y)) S) : sp__law_frac [.int x, .int y] S Q R :=
  ⟨x, y, rfl, ⟨h0, log2_lt (Nat.lt_of_lt_of_le (show y.natAbs < 2 ^ 30 by omega) (Nat.pow_le_pow_right (by omega) (by omega))) (by omega)⟩, h⟩
theorem hw__law_fraction : ∀ ds St Q R, sp__law_fraction ds St Q R → t__law_fraction (endsD Q R) (startD ["bag", "way"] ds) St := by
  rintro ds S Q R ⟨a, b, rfl, hB, hQ⟩
  have m0 : M0 = 1000000000000 := rfl
  simp only [t__law_fraction, rsFor, rLc, wipeD, rsNext, rsSeq, rsDrop, rsRet, rsRetN, rsIf, rsAsg, rsPar, rsPar3, rsAug, rsSet, rsBreak, rsCont, rVar, rC, rBin, rTru, rTest, rChain, rNeg, rNot, rAnd, rOr, rIf, rAndV, rOrV, rNotV, rNil, rCons, rTup, rLst, rNone, rSome, rSl, rCall, rCallK, rBlt, rLRev, rMeth, rMeth0, rYes, wSeq, wEnum, wRev, wRng1, wRng2, addD_int, addD_tup, addD_str, addD_ref, subD_int, mulD_int, mulD_ref, mulD_tup, fdivD_int, modD_int, powD_int, cmpD_int, isD_non, isnD_non, iaddD_int, isNon_non, isNon_int, isNon_str, isNon_tup, isNon_fr, isNon_bl, eqD_int, neD_int, absD_int, intD_int, intD_bl, lenD_tup, lenD_ref, lenD_pl, listD_pl, tupleD_pl, seqW_pl, enumW_pl, revW_pl, slD_pl, isNon_pl, addD_pl, listD_tup, listD_ref, tupleD_tup, tupleD_ref, max2D_int, min2D_int, truD_int, truD_bl, truD_tup, truD_non, seqW_tup, seqW_ref, enumW_tup, enumW_ref, revW_tup, revW_ref, rngW1_int, rngW2_int, slD_tup, slD_ref, slD_frl, popD_ref, appendD_ref, extendD_ref, setD_ref, bindG_nm, bindG_tup, bindGs_nil, bindGs_cons, ixD_ref, startD, List.map_cons, List.map_nil, List.length_cons, List.length_nil, List.cons_append, List.nil_append, List.getElem?_cons_zero, List.getElem?_cons_succ, List.set_cons_zero, List.set_cons_succ, Option.some.injEq, exists_eq_left', exists_eq_left, Option.bind_some, Nat.reduceAdd, Nat.reduceSub, List.replicate_succ, List.replicate_zero, Dt.bl.injEq, Dt.int.injEq, decide_eq_true_eq, decide_eq_false_iff_not, Bool.false_eq_true, Bool.true_eq_false, if_true, if_false, Bool.not_eq_true', Bool.not_true, Bool.not_false, bne_iff_ne, ne_eq, ixD_fr0, ixD_fr1, ixD_pair0, ixD_pair1, Dt.ref.injEq, List.cons.injEq, and_true, true_and, reduceIte, exists_eq, Nat.zero_add, Dt.tup.injEq, and_self, and_assoc, exists_and_left, fr_inj, pl_inj, ite_true, ite_false]
  refine draw_of hB (by decide) (by decide) fun v S1 v0 v1 B1 K1 => ?_
  simp only [rsFor, rLc, wipeD, rsNext, rsSeq, rsDrop, rsRet, rsRetN, rsIf, rsAsg, rsPar, rsPar3, rsAug, rsSet, rsBreak, rsCont, rVar, rC, rBin, rTru, rTest, rChain, rNeg, rNot, rAnd, rOr, rIf, rAndV, rOrV, rNotV, rNil, rCons, rTup, rLst, rNone, rSome, rSl, rCall, rCallK, rBlt, rLRev, rMeth, rMeth0, rYes, wSeq, wEnum, wRev, wRng1, wRng2, addD_int, addD_tup, addD_str, addD_ref, subD_int, mulD_int, mulD_ref, mulD_tup, fdivD_int, modD_int, powD_int, cmpD_int, isD_non, isnD_non, iaddD_int, isNon_non, isNon_int, isNon_str, isNon_tup, isNon_fr, isNon_bl, eqD_int, neD_int, absD_int, intD_int, intD_bl, lenD_tup, lenD_ref, lenD_pl, listD_pl, tupleD_pl, seqW_pl, enumW_pl, revW_pl, slD_pl, isNon_pl, addD_pl, listD_tup, listD_ref, tupleD_tup, tupleD_ref, max2D_int, min2D_int, truD_int, truD_bl, truD_tup, truD_non, seqW_tup, seqW_ref, enumW_tup, enumW_ref, revW_tup, revW_ref, rngW1_int, rngW2_int, slD_tup, slD_ref, slD_frl, popD_ref, appendD_ref, extendD_ref, setD_ref, bindG_nm, bindG_tup, bindGs_nil, bindGs_cons, ixD_ref, startD, List.map_cons, List.map_nil, List.length_cons, List.length_nil, List.cons_append, List.nil_append, List.getElem?_cons_zero, List.getElem?_cons_succ, List.set_cons_zero, List.set_cons_succ, Option.some.injEq, exists_eq_left', exists_eq_left, Option.bind_some, Nat.reduceAdd, Nat.reduceSub, List.replicate_succ, List.replicate_zero, Dt.bl.injEq, Dt.int.injEq, decide_eq_true_eq, decide_eq_false_iff_not, Bool.false_eq_true, Bool.true_eq_false, if_true, if_false, Bool.not_eq_true', Bool.not_true, Bool.not_false, bne_iff_ne, ne_eq, ixD_fr0, ixD_fr1, ixD_pair0, ixD_pair1, Dt.ref.injEq, List.cons.injEq, and_true, true_and, reduceIte, exists_eq, Nat.zero_add, Dt.tup.injEq, and_self, and_assoc, exists_and_left, fr_inj, pl_inj, ite_true, ite_false]
  split
  · exact ⟨by decide, rt_of (hQ 0 S1 .zero B1 K1)⟩
  split
  · refine ⟨by decide, fun p hp => ?_⟩
    refine pick_new B1 hp (by simp) (by simp) fun S2 d hd B2 K2 => ?_
    refine ⟨⟨by decide, by decide, by decide⟩, draw_of B2 (by decide) (by decide) fun w S3 w0 w1 B3 K3 => ?_⟩
    have e12 : (10 : Int) ^ (Int.toNat 12) = 1000000000000 := by decide
    have e6 : (10 : Int) ^ (Int.toNat 6) = 1000000 := by decide
    have key : ∀ z : Int, z = 1 ∨ z = -1 → d = .int z → mulD d (Dt.int (10 ^ Int.toNat 12 - w)) S3 fun x S1 => CPow 10 6 ∧ 2 ≤ sizeLine ∧ ∀ (p : Addr), S1 p = none → sp__law_pick [Dt.ref a, Dt.ref p] (put S1 p (Ob.lst [Dt.int 1, Dt.int (10 ^ Int.toNat 6)])) (fun y S2 => sp__law_frac [x, y] S2 (endsD Q R).rt fun x S' => (endsD Q R).ex x [some (Dt.ref a), some (Dt.int v)] S') fun x S' => (endsD Q R).ex x [some (Dt.ref a), some (Dt.int v)] S' := by
      intro z hz ez
      subst ez
      simp only [rsFor, rLc, wipeD, rsNext, rsSeq, rsDrop, rsRet, rsRetN, rsIf, rsAsg, rsPar, rsPar3, rsAug, rsSet, rsBreak, rsCont, rVar, rC, rBin, rTru, rTest, rChain, rNeg, rNot, rAnd, rOr, rIf, rAndV, rOrV, rNotV, rNil, rCons, rTup, rLst, rNone, rSome, rSl, rCall, rCallK, rBlt, rLRev, rMeth, rMeth0, rYes, wSeq, wEnum, wRev, wRng1, wRng2, addD_int, addD_tup, addD_str, addD_ref, subD_int, mulD_int, mulD_ref, mulD_tup, fdivD_int, modD_int, powD_int, cmpD_int, isD_non, isnD_non, iaddD_int, isNon_non, isNon_int, isNon_str, isNon_tup, isNon_fr, isNon_bl, eqD_int, neD_int, absD_int, intD_int, intD_bl, lenD_tup, lenD_ref, lenD_pl, listD_pl, tupleD_pl, seqW_pl, enumW_pl, revW_pl, slD_pl, isNon_pl, addD_pl, listD_tup, listD_ref, tupleD_tup, tupleD_ref, max2D_int, min2D_int, truD_int, truD_bl, truD_tup, truD_non, seqW_tup, seqW_ref, enumW_tup, enumW_ref, revW_tup, revW_ref, rngW1_int, rngW2_int, slD_tup, slD_ref, slD_frl, popD_ref, appendD_ref, extendD_ref, setD_ref, bindG_nm, bindG_tup, bindGs_nil, bindGs_cons, ixD_ref, startD, List.map_cons, List.map_nil, List.length_cons, List.length_nil, List.cons_append, List.nil_append, List.getElem?_cons_zero, List.getElem?_cons_succ, List.set_cons_zero, List.set_cons_succ, Option.some.injEq, exists_eq_left', exists_eq_left, Option.bind_some, Nat.reduceAdd, Nat.reduceSub, List.replicate_succ, List.replicate_zero, Dt.bl.injEq, Dt.int.injEq, decide_eq_true_eq, decide_eq_false_iff_not, Bool.false_eq_true, Bool.true_eq_false, if_true, if_false, Bool.not_eq_true', Bool.not_true, Bool.not_false, bne_iff_ne, ne_eq, ixD_fr0, ixD_fr1, ixD_pair0, ixD_pair1, Dt.ref.injEq, List.cons.injEq, and_true, true_and, reduceIte, exists_eq, Nat.zero_add, Dt.tup.injEq, and_self, and_assoc, exists_and_left, fr_inj, pl_inj, ite_true, ite_false, e12, e6]
      refine ⟨?_, ⟨by decide, by decide, by decide⟩, by decide, fun p2 hp2 => pick_new B3 hp2 (by simp) (by simp) fun S4 d4 hd4 B4 K4 => ?_⟩
      · rcases hz with e | e <;> subst e <;> exact mulOk_of (m := 2) (n := 41) (by omega) (by omega) (by omega)
      · have hz2 : (z * (1000000000000 - w)).natAbs ≤ M0 := by
          rcases hz with e | e <;> subst e <;> omega
        simp only [List.mem_cons, List.mem_nil_iff, or_false] at hd4
        rcases hd4 with e | e <;> subst e
        · exact frac_of (by decide) (by decide) (rt_of (hQ _ _ (W.divInt (by decide) (by decide) hz2) B4 (((K1.trans K2).trans K3).trans K4)))
        · exact frac_of (by decide) (by decide) (rt_of (hQ _ _ (W.divInt (by decide) (by decide) hz2) B4 (((K1.trans K2).trans K3).trans K4)))
    simp only [List.mem_cons, List.mem_nil_iff, or_false] at hd
    rcases hd with e | e
    · exact key 1 (.inl rfl) e
    · exact key (-1) (.inr rfl) e
  · refine draw_of B1 (by decide) (by decide) fun x S2 x0 x1 B2 K2 => ?_
    simp only [rsFor, rLc, wipeD, rsNext, rsSeq, rsDrop, rsRet, rsRetN, rsIf, rsAsg, rsPar, rsPar3, rsAug, rsSet, rsBreak, rsCont, rVar, rC, rBin, rTru, rTest, rChain, rNeg, rNot, rAnd, rOr, rIf, rAndV, rOrV, rNotV, rNil, rCons, rTup, rLst, rNone, rSome, rSl, rCall, rCallK, rBlt, rLRev, rMeth, rMeth0, rYes, wSeq, wEnum, wRev, wRng1, wRng2, addD_int, addD_tup, addD_str, addD_ref, subD_int, mulD_int, mulD_ref, mulD_tup, fdivD_int, modD_int, powD_int, cmpD_int, isD_non, isnD_non, iaddD_int, isNon_non, isNon_int, isNon_str, isNon_tup, isNon_fr, isNon_bl, eqD_int, neD_int, absD_int, intD_int, intD_bl, lenD_tup, lenD_ref, lenD_pl, listD_pl, tupleD_pl, seqW_pl, enumW_pl, revW_pl, slD_pl, isNon_pl, addD_pl, listD_tup, listD_ref, tupleD_tup, tupleD_ref, max2D_int, min2D_int, truD_int, truD_bl, truD_tup, truD_non, seqW_tup, seqW_ref, enumW_tup, enumW_ref, revW_tup, revW_ref, rngW1_int, rngW2_int, slD_tup, slD_ref, slD_frl, popD_ref, appendD_ref, extendD_ref, setD_ref, bindG_nm, bindG_tup, bindGs_nil, bindGs_cons, ixD_ref, startD, List.map_cons, List.map_nil, List.length_cons, List.length_nil, List.cons_append, List.nil_append, List.getElem?_cons_zero, List.getElem?_cons_succ, List.set_cons_zero, List.set_cons_succ, Option.some.injEq, exists_eq_left', exists_eq_left, Option.bind_some, Nat.reduceAdd, Nat.reduceSub, List.replicate_succ, List.replicate_zero, Dt.bl.injEq, Dt.int.injEq, decide_eq_true_eq, decide_eq_false_iff_not, Bool.false_eq_true, Bool.true_eq_false, if_true, if_false, Bool.not_eq_true', Bool.not_true, Bool.not_false, bne_iff_ne, ne_eq, ixD_fr0, ixD_fr1, ixD_pair0, ixD_pair1, Dt.ref.injEq, List.cons.injEq, and_true, true_and, reduceIte, exists_eq, Nat.zero_add, Dt.tup.injEq, and_self, and_assoc, exists_and_left, fr_inj, pl_inj, ite_true, ite_false]
    refine draw_of B2 (by decide) (by decide) fun y S3 y0 y1 B3 K3 => ?_
    simp only [rsFor, rLc, wipeD, rsNext, rsSeq, rsDrop, rsRet, rsRetN, rsIf, rsAsg, rsPar, rsPar3, rsAug, rsSet, rsBreak, rsCont, rVar, rC, rBin, rTru, rTest, rChain, rNeg, rNot, rAnd, rOr, rIf, rAndV, rOrV, rNotV, rNil, rCons, rTup, rLst, rNone, rSome, rSl, rCall, rCallK, rBlt, rLRev, rMeth, rMeth0, rYes, wSeq, wEnum, wRev, wRng1, wRng2, addD_int, addD_tup, addD_str, addD_ref, subD_int, mulD_int, mulD_ref, mulD_tup, fdivD_int, modD_int, powD_int, cmpD_int, isD_non, isnD_non, iaddD_int, isNon_non, isNon_int, isNon_str, isNon_tup, isNon_fr, isNon_bl, eqD_int, neD_int, absD_int, intD_int, intD_bl, lenD_tup, lenD_ref, lenD_pl, listD_pl, tupleD_pl, seqW_pl, enumW_pl, revW_pl, slD_pl, isNon_pl, addD_pl, listD_tup, listD_ref, tupleD_tup, tupleD_ref, max2D_int, min2D_int, truD_int, truD_bl, truD_tup, truD_non, seqW_tup, seqW_ref, enumW_tup, enumW_ref, revW_tup, revW_ref, rngW1_int, rngW2_int, slD_tup, slD_ref, slD_frl, popD_ref, appendD_ref, extendD_ref, setD_ref, bindG_nm, bindG_tup, bindGs_nil, bindGs_cons, ixD_ref, startD, List.map_cons, List.map_nil, List.length_cons, List.length_nil, List.cons_append, List.nil_append, List.getElem?_cons_zero, List.getElem?_cons_succ, List.set_cons_zero, List.set_cons_succ, Option.some.injEq, exists_eq_left', exists_eq_left, Option.bind_some, Nat.reduceAdd, Nat.reduceSub, List.replicate_succ, List.replicate_zero, Dt.bl.injEq, Dt.int.injEq, decide_eq_true_eq, decide_eq_false_iff_not, Bool.false_eq_true, Bool.true_eq_false, if_true, if_false, Bool.not_eq_true', Bool.not_true, Bool.not_false, bne_iff_ne, ne_eq, ixD_fr0, ixD_fr1, ixD_pair0, ixD_pair1, Dt.ref.injEq, List.cons.injEq, and_true, true_and, reduceIte, exists_eq, Nat.zero_add, Dt.tup.injEq, and_self, and_assoc, exists_and_left, fr_inj, pl_inj, ite_true, ite_false]
    exact frac_of (by omega) (by omega) (rt_of (hQ _ _ (W.divInt (by omega) (dvdD0 (by omega) (by omega)) (by rw [m0]; omega)) B3 ((K1.trans K2).trans K3)))
theorem len__law_fraction : ∀ ds S Q R, sp__law_fraction ds S Q R → ds.length = 1 := by rintro ds S Q R ⟨a, b, rfl, _⟩; rfl
/-- a comprehension that draws -/
theorem lc_draw {a b P : Addr} {σ : Slo} {E : Sto → Prop} {te : RE} {i : Nat} {V : Rat → Prop} {S0 : Sto} (hP : S0 P = none) (hb0 : BagAt S0 a b)
    (ht : ∀ d S' (Q : QD), BagAt S' a b → Keep a b S0 S' → (∀ q S'', V q → BagAt S'' a b → Keep a b S' S'' → Q (fr q) S'') → te (σ.set i (some d)) S' Q noX)
    (n : Nat) (hn : n ≤ 1000) :
    ∀ (items : List Dt) (f : List Rat) (S' : Sto), f.length + items.length = n → (∀ q ∈ f, V q) → BagAt S' a b → Keep a b S0 S' → S' P = some (.lst (f.map fr)) → (∀ (f' : List Rat) (S'' : Sto), f'.length = n → (∀ q ∈ f', V q) → BagAt S'' a b → Keep a b S0 S'' → S'' P = some (.lst (f'.map fr)) → E S'') →
      lcGo (.nm i) rYes te (fun _ => True) P σ E items S'
  | [], f, S', hl, hf, hB, hK, hp, hE => ⟨trivial, hE f S' (by simpa using hl) hf hB hK hp⟩
  | d :: items, f, S', hl, hf, hB, hK, hp, hE' => by
    obtain ⟨n1, n2⟩ := hb0.nep hP
    refine ⟨trivial, _, bindG_nm, ?_⟩
    simp only [rYes, if_true]
    refine ht d S' _ hB hK fun q S'' hq B2 K2 => ?_
    have e := K2 P _ n1 n2 hp
    rw [List.length_cons] at hl
    refine ⟨_, e, by rw [List.length_map]; have : sizeLine = 16777216 := by decide
                     omega, ?_⟩
    have e2 : f.map fr ++ [fr q] = (f ++ [q]).map fr := by simp
    rw [e2]
    exact lc_draw hP hb0 ht n hn items (f ++ [q]) _ (by rw [List.length_append]; simp only [List.length_cons, List.length_nil]; omega)
      (fun r hr => by
        rcases List.mem_append.mp hr with h | h
        · exact hf r h
        · rw [List.mem_singleton.mp h]; exact hq)
      (B2.other n1 n2) ((hK.trans K2).putN hP) put_same hE'
theorem hw__law_poly : ∀ ds St Q R, sp__law_poly ds St Q R → t__law_poly (endsD Q R) (startD ["bag", "most", "found", "turn"] ds) St := by
  rintro ds S Q R ⟨a, b, n, rfl, ⟨hB, h0, h1⟩, hQ⟩
  simp only [t__law_poly, rsFor, rLc, wipeD, rsNext, rsSeq, rsDrop, rsRet, rsRetN, rsIf, rsAsg, rsPar, rsPar3, rsAug, rsSet, rsBreak, rsCont, rVar, rC, rBin, rTru, rTest, rChain, rNeg, rNot, rAnd, rOr, rIf, rAndV, rOrV, rNotV, rNil, rCons, rTup, rLst, rNone, rSome, rSl, rCall, rCallK, rBlt, rLRev, rMeth, rMeth0, rYes, wSeq, wEnum, wRev, wRng1, wRng2, addD_int, addD_tup, addD_str, addD_ref, subD_int, mulD_int, mulD_ref, mulD_tup, fdivD_int, modD_int, powD_int, cmpD_int, isD_non, isnD_non, iaddD_int, isNon_non, isNon_int, isNon_str, isNon_tup, isNon_fr, isNon_bl, eqD_int, neD_int, absD_int, intD_int, intD_bl, lenD_tup, lenD_ref, lenD_pl, listD_pl, tupleD_pl, seqW_pl, enumW_pl, revW_pl, slD_pl, isNon_pl, addD_pl, listD_tup, listD_ref, tupleD_tup, tupleD_ref, max2D_int, min2D_int, truD_int, truD_bl, truD_tup, truD_non, seqW_tup, seqW_ref, enumW_tup, enumW_ref, revW_tup, revW_ref, rngW1_int, rngW2_int, slD_tup, slD_ref, slD_frl, popD_ref, appendD_ref, extendD_ref, setD_ref, bindG_nm, bindG_tup, bindGs_nil, bindGs_cons, ixD_ref, startD, List.map_cons, List.map_nil, List.length_cons, List.length_nil, List.cons_append, List.nil_append, List.getElem?_cons_zero, List.getElem?_cons_succ, List.set_cons_zero, List.set_cons_succ, Option.some.injEq, exists_eq_left', exists_eq_left, Option.bind_some, Nat.reduceAdd, Nat.reduceSub, List.replicate_succ, List.replicate_zero, Dt.bl.injEq, Dt.int.injEq, decide_eq_true_eq, decide_eq_false_iff_not, Bool.false_eq_true, Bool.true_eq_false, if_true, if_false, Bool.not_eq_true', Bool.not_true, Bool.not_false, bne_iff_ne, ne_eq, ixD_fr0, ixD_fr1, ixD_pair0, ixD_pair1, Dt.ref.injEq, List.cons.injEq, and_true, true_and, reduceIte, exists_eq, Nat.zero_add, Dt.tup.injEq, and_self, and_assoc, exists_and_left, fr_inj, pl_inj, ite_true, ite_false]
  refine draw_of hB (by omega) (by omega) fun v S1 v0 v1 B1 K1 => ?_
  simp only [rsFor, rLc, wipeD, rsNext, rsSeq, rsDrop, rsRet, rsRetN, rsIf, rsAsg, rsPar, rsPar3, rsAug, rsSet, rsBreak, rsCont, rVar, rC, rBin, rTru, rTest, rChain, rNeg, rNot, rAnd, rOr, rIf, rAndV, rOrV, rNotV, rNil, rCons, rTup, rLst, rNone, rSome, rSl, rCall, rCallK, rBlt, rLRev, rMeth, rMeth0, rYes, wSeq, wEnum, wRev, wRng1, wRng2, addD_int, addD_tup, addD_str, addD_ref, subD_int, mulD_int, mulD_ref, mulD_tup, fdivD_int, modD_int, powD_int, cmpD_int, isD_non, isnD_non, iaddD_int, isNon_non, isNon_int, isNon_str, isNon_tup, isNon_fr, isNon_bl, eqD_int, neD_int, absD_int, intD_int, intD_bl, lenD_tup, lenD_ref, lenD_pl, listD_pl, tupleD_pl, seqW_pl, enumW_pl, revW_pl, slD_pl, isNon_pl, addD_pl, listD_tup, listD_ref, tupleD_tup, tupleD_ref, max2D_int, min2D_int, truD_int, truD_bl, truD_tup, truD_non, seqW_tup, seqW_ref, enumW_tup, enumW_ref, revW_tup, revW_ref, rngW1_int, rngW2_int, slD_tup, slD_ref, slD_frl, popD_ref, appendD_ref, extendD_ref, setD_ref, bindG_nm, bindG_tup, bindGs_nil, bindGs_cons, ixD_ref, startD, List.map_cons, List.map_nil, List.length_cons, List.length_nil, List.cons_append, List.nil_append, List.getElem?_cons_zero, List.getElem?_cons_succ, List.set_cons_zero, List.set_cons_succ, Option.some.injEq, exists_eq_left', exists_eq_left, Option.bind_some, Nat.reduceAdd, Nat.reduceSub, List.replicate_succ, List.replicate_zero, Dt.bl.injEq, Dt.int.injEq, decide_eq_true_eq, decide_eq_false_iff_not, Bool.false_eq_true, Bool.true_eq_false, if_true, if_false, Bool.not_eq_true', Bool.not_true, Bool.not_false, bne_iff_ne, ne_eq, ixD_fr0, ixD_fr1, ixD_pair0, ixD_pair1, Dt.ref.injEq, List.cons.injEq, and_true, true_and, reduceIte, exists_eq, Nat.zero_add, Dt.tup.injEq, and_self, and_assoc, exists_and_left, fr_inj, pl_inj, ite_true, ite_false]
  refine ⟨by unfold smallI; omega, fun P hP => ?_⟩
  have hl : (rngD 0 v).length = v.toNat := by unfold rngD; simp
  refine lc_draw (V := W 12 6) (S0 := S1) hP B1 (fun d S' Q' B' K' h => ?_) v.toNat (by omega) (rngD 0 v) [] _ (by rw [hl]; simp) (fun q hq => by cases hq) (B1.new hP) (.new hP) put_same (fun f S' hf hV B' K' e => ?_)
  · simp only [rsFor, rLc, wipeD, rsNext, rsSeq, rsDrop, rsRet, rsRetN, rsIf, rsAsg, rsPar, rsPar3, rsAug, rsSet, rsBreak, rsCont, rVar, rC, rBin, rTru, rTest, rChain, rNeg, rNot, rAnd, rOr, rIf, rAndV, rOrV, rNotV, rNil, rCons, rTup, rLst, rNone, rSome, rSl, rCall, rCallK, rBlt, rLRev, rMeth, rMeth0, rYes, wSeq, wEnum, wRev, wRng1, wRng2, addD_int, addD_tup, addD_str, addD_ref, subD_int, mulD_int, mulD_ref, mulD_tup, fdivD_int, modD_int, powD_int, cmpD_int, isD_non, isnD_non, iaddD_int, isNon_non, isNon_int, isNon_str, isNon_tup, isNon_fr, isNon_bl, eqD_int, neD_int, absD_int, intD_int, intD_bl, lenD_tup, lenD_ref, lenD_pl, listD_pl, tupleD_pl, seqW_pl, enumW_pl, revW_pl, slD_pl, isNon_pl, addD_pl, listD_tup, listD_ref, tupleD_tup, tupleD_ref, max2D_int, min2D_int, truD_int, truD_bl, truD_tup, truD_non, seqW_tup, seqW_ref, enumW_tup, enumW_ref, revW_tup, revW_ref, rngW1_int, rngW2_int, slD_tup, slD_ref, slD_frl, popD_ref, appendD_ref, extendD_ref, setD_ref, bindG_nm, bindG_tup, bindGs_nil, bindGs_cons, ixD_ref, startD, List.map_cons, List.map_nil, List.length_cons, List.length_nil, List.cons_append, List.nil_append, List.getElem?_cons_zero, List.getElem?_cons_succ, List.set_cons_zero, List.set_cons_succ, Option.some.injEq, exists_eq_left', exists_eq_left, Option.bind_some, Nat.reduceAdd, Nat.reduceSub, List.replicate_succ, List.replicate_zero, Dt.bl.injEq, Dt.int.injEq, decide_eq_true_eq, decide_eq_false_iff_not, Bool.false_eq_true, Bool.true_eq_false, if_true, if_false, Bool.not_eq_true', Bool.not_true, Bool.not_false, bne_iff_ne, ne_eq, ixD_fr0, ixD_fr1, ixD_pair0, ixD_pair1, Dt.ref.injEq, List.cons.injEq, and_true, true_and, reduceIte, exists_eq, Nat.zero_add, Dt.tup.injEq, and_self, and_assoc, exists_and_left, fr_inj, pl_inj, ite_true, ite_false]
    refine draw_of B' (by decide) (by decide) fun w S2 w0 w1 B2 K2 => ?_
    simp only [rsFor, rLc, wipeD, rsNext, rsSeq, rsDrop, rsRet, rsRetN, rsIf, rsAsg, rsPar, rsPar3, rsAug, rsSet, rsBreak, rsCont, rVar, rC, rBin, rTru, rTest, rChain, rNeg, rNot, rAnd, rOr, rIf, rAndV, rOrV, rNotV, rNil, rCons, rTup, rLst, rNone, rSome, rSl, rCall, rCallK, rBlt, rLRev, rMeth, rMeth0, rYes, wSeq, wEnum, wRev, wRng1, wRng2, addD_int, addD_tup, addD_str, addD_ref, subD_int, mulD_int, mulD_ref, mulD_tup, fdivD_int, modD_int, powD_int, cmpD_int, isD_non, isnD_non, iaddD_int, isNon_non, isNon_int, isNon_str, isNon_tup, isNon_fr, isNon_bl, eqD_int, neD_int, absD_int, intD_int, intD_bl, lenD_tup, lenD_ref, lenD_pl, listD_pl, tupleD_pl, seqW_pl, enumW_pl, revW_pl, slD_pl, isNon_pl, addD_pl, listD_tup, listD_ref, tupleD_tup, tupleD_ref, max2D_int, min2D_int, truD_int, truD_bl, truD_tup, truD_non, seqW_tup, seqW_ref, enumW_tup, enumW_ref, revW_tup, revW_ref, rngW1_int, rngW2_int, slD_tup, slD_ref, slD_frl, popD_ref, appendD_ref, extendD_ref, setD_ref, bindG_nm, bindG_tup, bindGs_nil, bindGs_cons, ixD_ref, startD, List.map_cons, List.map_nil, List.length_cons, List.length_nil, List.cons_append, List.nil_append, List.getElem?_cons_zero, List.getElem?_cons_succ, List.set_cons_zero, List.set_cons_succ, Option.some.injEq, exists_eq_left', exists_eq_left, Option.bind_some, Nat.reduceAdd, Nat.reduceSub, List.replicate_succ, List.replicate_zero, Dt.bl.injEq, Dt.int.injEq, decide_eq_true_eq, decide_eq_false_iff_not, Bool.false_eq_true, Bool.true_eq_false, if_true, if_false, Bool.not_eq_true', Bool.not_true, Bool.not_false, bne_iff_ne, ne_eq, ixD_fr0, ixD_fr1, ixD_pair0, ixD_pair1, Dt.ref.injEq, List.cons.injEq, and_true, true_and, reduceIte, exists_eq, Nat.zero_add, Dt.tup.injEq, and_self, and_assoc, exists_and_left, fr_inj, pl_inj, ite_true, ite_false]
    split
    · exact ⟨a, b, rfl, B2, fun q S3 hq B3 K3 => h q S3 hq B3 (K2.trans K3)⟩
    · exact ⟨by decide, h 0 S2 .zero B2 K2⟩
  · refine ⟨.ref P, f, rfl, .inr ⟨P, rfl, lst_of e⟩, rt_of (hQ _ _ ⟨trim_trim _, ?_, WL.trim hV⟩ B' (K1.trans K'))⟩
    exact Nat.le_trans (trim_len _) (by omega)
theorem len__law_poly : ∀ ds S Q R, sp__law_poly ds S Q R → ds.length = 2 := by rintro ds S Q R ⟨a, b, n, rfl, _⟩; rfl
end Ev

namespace Ev
open PySem PySem.Spec PyProof.Rows L2
def sp__law_are_three_right : SpD := fun ds S Q _ => ∃ (p q r : List Rat) (n : Bool), ds = [pl p, pl q, pl r, .bl n] ∧ (BP D0 M0 7 p ∧ BP D0 M0 7 q ∧ BP D0 M0 7 r) ∧ Q (.bl true) S
def u__three : RS := rsSeq (rsDrop (rMeth appendD (rVar 4) (rCons (rLst (rCons (rVar 10) (rCons (rCall sp__law_poly_times (rCons (rCall sp__law_poly_plus (rCons (rVar 0) (rCons (rVar 1) rNil))) (rCons (rVar 2) rNil))) rNil))) rNil))) (rsSeq (rsAsg (rCall sp_poly_slope (rCons (rCall sp_poly_product (rCons (rVar 0) (rCons (rVar 1) rNil))) rNil)) (Tg.nm 8)) (rsSeq (rsAsg (rCall sp_poly_sum (rCons (rCall sp_poly_product (rCons (rCall sp_poly_slope (rCons (rVar 0) rNil)) (rCons (rVar 1) rNil))) (rCons (rCall sp_poly_product (rCons (rVar 0) (rCons (rCall sp_poly_slope (rCons (rVar 1) rNil)) rNil))) rNil))) (Tg.nm 9)) (rsSeq (rsDrop (rMeth appendD (rVar 4) (rCons (rLst (rCons (rVar 8) (rCons (rVar 9) rNil))) rNil))) (rsRet (rCall sp__law_all (rCons (rVar 4) rNil))))))
def t__law_are_three_right : RS := rsSeq (rsAsg (rLst (rCons (rLst (rCons (rCall sp_poly_sum (rCons (rVar 0) (rCons (rVar 1) rNil))) (rCons (rCall sp_poly_sum (rCons (rVar 1) (rCons (rVar 0) rNil))) rNil))) (rCons (rLst (rCons (rCall sp_poly_product (rCons (rVar 0) (rCons (rVar 1) rNil))) (rCons (rCall sp_poly_product (rCons (rVar 1) (rCons (rVar 0) rNil))) rNil))) rNil))) (Tg.nm 4)) (rsSeq (rsDrop (rMeth appendD (rVar 4) (rCons (rLst (rCons (rCall sp_poly_sum (rCons (rCall sp_poly_sum (rCons (rVar 0) (rCons (rVar 1) rNil))) (rCons (rVar 2) rNil))) (rCons (rCall sp_poly_sum (rCons (rVar 0) (rCons (rCall sp_poly_sum (rCons (rVar 1) (rCons (rVar 2) rNil))) rNil))) rNil))) rNil))) (rsSeq (rsAsg (rCall sp_poly_product (rCons (rCall sp_poly_product (rCons (rVar 0) (rCons (rVar 1) rNil))) (rCons (rVar 2) rNil))) (Tg.nm 5)) (rsSeq (rsAsg (rCallK sp_poly_product 0 [1, 0] rNil (rCons (rCallK sp_poly_product 0 [1, 0] rNil (rCons (rVar 2) (rCons (rVar 1) rNil))) (rCons (rVar 0) rNil))) (Tg.nm 6)) (rsSeq (rsDrop (rMeth appendD (rVar 4) (rCons (rLst (rCons (rVar 5) (rCons (rVar 6) rNil))) rNil))) (rsSeq (rsAsg (rCall sp_poly_sum (rCons (rCall sp_poly_product (rCons (rVar 0) (rCons (rVar 2) rNil))) (rCons (rCall sp_poly_product (rCons (rVar 1) (rCons (rVar 2) rNil))) rNil))) (Tg.nm 7)) (rsSeq (rsIf (rTru (rVar 3)) (rsAsg (rCallK sp_poly_product 0 [1, 0] rNil (rCons (rVar 2) (rCons (rCallK sp_poly_sum 0 [1, 0] rNil (rCons (rVar 1) (rCons (rVar 0) rNil))) rNil))) (Tg.nm 10)) (rsAsg (rCall sp_poly_product (rCons (rCall sp_poly_sum (rCons (rVar 0) (rCons (rVar 1) rNil))) (rCons (rVar 2) rNil))) (Tg.nm 10))) (rsSeq (rsDrop (rMeth appendD (rVar 4) (rCons (rLst (rCons (rVar 10) (rCons (rVar 7) rNil))) rNil))) u__three)))))))
/-! ### the list of pairs -/
def PairX (S : Sto) (F : Addr) (x : Dt) : Prop := ∃ (c : Addr) (u v : Dt) (p : PyData), x = .ref c ∧ c ≠ F ∧ S c = some (.lst [u, v]) ∧ (∀ S', Ni S' 60 8000 u p) ∧ ∀ S', Ni S' 60 8000 v p
structure FL (S0 S : Sto) (F : Addr) (L : List Dt) : Prop where
  f0 : S0 F = none
  sub : Sub S0 S
  at_ : S F = some (.lst L)
  prs : ∀ x ∈ L, PairX S F x
theorem FL.new {S0 S : Sto} {F q : Addr} {L : List Dt} {o : Ob} (h : FL S0 S F L) (hq : S q = none) : FL S0 (put S q o) F L ∧ q ≠ F := by
  have hne : q ≠ F := fun e => by rw [e, h.at_] at hq; cases hq
  refine ⟨⟨h.f0, h.sub.trans (Sub.put hq), Sub.put hq _ _ h.at_, fun x hx => ?_⟩, hne⟩
  obtain ⟨c, u, v, p, rfl, n, e, h1, h2⟩ := h.prs x hx
  exact ⟨c, u, v, p, rfl, n, Sub.put hq _ _ e, h1, h2⟩
theorem FL.app {S0 S : Sto} {F q : Addr} {L : List Dt} {u v : Dt} (h : FL S0 S F L) (hq : S q = none) (huv : ∃ p, (∀ S', Ni S' 60 8000 u p) ∧ ∀ S', Ni S' 60 8000 v p) :
    put S q (.lst [u, v]) F = some (.lst L) ∧ FL S0 (put (put S q (.lst [u, v])) F (.lst (L ++ [.ref q]))) F (L ++ [.ref q]) := by
  obtain ⟨h', hne⟩ := h.new (o := .lst [u, v]) hq
  refine ⟨h'.at_, h.f0, Sub.put2 h.f0 h'.sub, put_same, fun x hx => ?_⟩
  rcases List.mem_append.mp hx with hx | hx
  · obtain ⟨c, u, v, p, rfl, n, e, h1, h2⟩ := h'.prs x hx
    exact ⟨c, u, v, p, rfl, n, by rw [put_ne n]; exact e, h1, h2⟩
  · obtain ⟨p, h1, h2⟩ := huv
    rw [List.mem_singleton.mp hx]
    exact ⟨q, u, v, p, rfl, hne, by rw [put_ne hne, put_same], h1, h2⟩
theorem FL.first {S : Sto} {q1 q2 F : Addr} {u v u2 v2 : Dt} (h1 : S q1 = none) (h2 : put S q1 (.lst [u, v]) q2 = none) (h3 : put (put S q1 (.lst [u, v])) q2 (.lst [u2, v2]) F = none)
    (huv : ∃ p, (∀ S', Ni S' 60 8000 u p) ∧ ∀ S', Ni S' 60 8000 v p) (huv2 : ∃ p, (∀ S', Ni S' 60 8000 u2 p) ∧ ∀ S', Ni S' 60 8000 v2 p) :
    FL S (put (put (put S q1 (.lst [u, v])) q2 (.lst [u2, v2])) F (.lst [.ref q1, .ref q2])) F [.ref q1, .ref q2] := by
  have n12 : q2 ≠ q1 := fun e => by rw [e, put_same] at h2; cases h2
  have n2 : F ≠ q2 := fun e => by rw [e, put_same] at h3; cases h3
  have n1 : F ≠ q1 := fun e => by rw [e, put_ne n12.symm, put_same] at h3; cases h3
  have f0 : S F = none := by rw [put_ne n2, put_ne n1] at h3; exact h3
  refine ⟨f0, (Sub.put h1).trans ((Sub.put h2).trans (Sub.put h3)), put_same, fun x hx => ?_⟩
  rcases List.mem_cons.mp hx with e | hx
  · obtain ⟨p, a, b⟩ := huv
    subst e
    exact ⟨q1, u, v, p, rfl, n1.symm, by rw [put_ne n1.symm, put_ne n12.symm, put_same], a, b⟩
  · obtain ⟨p, a, b⟩ := huv2
    rw [List.mem_singleton.mp hx]
    exact ⟨q2, u2, v2, p, rfl, n2.symm, by rw [put_ne n2.symm, put_same], a, b⟩
theorem FL.all {S0 S : Sto} {Q : QD} {R : XD → Sto → Prop} {E : XD → Sto → Prop} {F : Addr} {L : List Dt} (h : FL S0 S F L) (hl : L.length ≤ 1000) (hQ : Q (.bl true) S0) : sp__law_all [.ref F] S (endsD Q R).rt E := by
  refine ⟨F, L, rfl, ⟨lst_of h.at_, hl, fun x hx => ?_⟩, rt_sub hQ h.sub⟩
  obtain ⟨c, u, v, p, rfl, n, e, h1, h2⟩ := h.prs x hx
  exact ⟨c, u, v, p, rfl, lst_of e, h1 S, h2 S⟩
theorem pair_pl {p q : List Rat} (e : p = q) (hl : p.length ≤ 100) (h : ∀ a ∈ p, Sz 1900 a) : ∃ d, (∀ S', Ni S' 60 8000 (pl p) d) ∧ ∀ S', Ni S' 60 8000 (pl q) d := by
  subst e
  exact ⟨_, fun S' => (Ni.pl h).mono (by omega) (by omega), fun S' => (Ni.pl h).mono (by omega) (by omega)⟩
theorem add_comm' {p q : List Rat} : pAdd p q = pAdd q p := trim_eq fun x => by rw [ev_addR, ev_addR]; grind
theorem mul_comm' {p q : List Rat} : pMul p q = pMul q p := trim_eq fun x => by rw [ev_mulR, ev_mulR]; grind
theorem ev_pAdd {p q : List Rat} {x : Rat} : ev (pAdd p q) x = ev p x + ev q x := by unfold pAdd; rw [ev_trim, ev_addR]
theorem ev_pMul {p q : List Rat} {x : Rat} : ev (pMul p q) x = ev p x * ev q x := by unfold pMul; rw [ev_trim, ev_mulR]
theorem dd_pMul {p q : List Rat} {x : Rat} : dd (pMul p q) x = dd p x * ev q x + ev p x * dd q x := by unfold pMul; rw [dd_trim, dd_mulR]
theorem add_assoc' {p q r : List Rat} : pAdd (pAdd p q) r = pAdd p (pAdd q r) := poly_eq (trim_trim _) (trim_trim _) fun x => by simp only [ev_pAdd]; grind
theorem mul_assoc' {p q r : List Rat} : pMul (pMul p q) r = pMul p (pMul q r) := poly_eq (trim_trim _) (trim_trim _) fun x => by simp only [ev_pMul]; grind
theorem mul_spread {p q r : List Rat} : pMul (pAdd p q) r = pAdd (pMul p r) (pMul q r) := poly_eq (trim_trim _) (trim_trim _) fun x => by simp only [ev_pMul, ev_pAdd]; grind
theorem slope_mul {p q : List Rat} : slope (pMul p q) = pAdd (pMul (slope p) q) (pMul p (slope q)) := poly_eq (slope_trim (trim_trim _)) (trim_trim _) fun x => by simp only [ev_pMul, ev_pAdd, ev_slope, dd_pMul]
section
variable {S : Sto} {Q : QD} {R : XD → Sto → Prop} {p q : List Rat} {f t : Rat}
theorem sum_of (h : AddPre p q) (k : Q (pl (pAdd p q)) S) : sp_poly_sum [pl p, pl q] S Q R := ⟨p, q, rfl, h, k⟩
theorem mul_of (h : MulPre p q ∧ FitP (pMul p q)) (k : Q (pl (pMul p q)) S) : sp_poly_product [pl p, pl q] S Q R := ⟨p, q, rfl, h, k⟩
theorem slope_of' (h : (∀ a ∈ p, Sz 1900 a) ∧ p.length ≤ 1000) (h2 : FitP (slope p)) (k : Q (pl (slope p)) S) : sp_poly_slope [pl p] S Q R := ⟨p, rfl, ⟨h, h2⟩, k⟩
theorem scale_of (h : ByPre f p) (h1 : trim p = p) (h2 : FitP (pScale f p)) (k : Q (pl (pScale f p)) S) : sp_poly_scaled [fr f, pl p] S Q R := ⟨f, p, rfl, ⟨⟨h, h1⟩, h2⟩, k⟩
theorem at_of (h : AtPre p t) (k : Q (fr (ev p t)) S) : sp_poly_at [pl p, fr t] S Q R := ⟨p, t, rfl, h, k⟩
theorem lsum_of (h : AddPre p q) (h1 : p.length ≤ 1000) (h2 : q.length ≤ 1000) (k : Q (pl (pAdd p q)) S) : sp__law_poly_plus [pl p, pl q] S Q R := ⟨p, q, rfl, ⟨h.1.1, h.1.2, h1, h2⟩, k⟩
theorem lmul_of (h : MulPre p q) (k : Q (pl (pMul p q)) S) : sp__law_poly_times [pl p, pl q] S Q R := ⟨p, q, rfl, h, k⟩
theorem lslope_of (h : (∀ a ∈ p, Sz 1900 a) ∧ p.length ≤ 1000) (k : Q (pl (slope p)) S) : sp__law_poly_slope [pl p] S Q R := ⟨p, rfl, h, k⟩
theorem lscale_of (h : ByPre f p) (k : Q (pl (pScale f p)) S) : sp__law_poly_scaled [fr f, pl p] S Q R := ⟨f, p, rfl, h, k⟩
theorem lat_of (h : AtPre p t) (k : Q (fr (ev p t)) S) : sp__law_poly_at [pl p, fr t] S Q R := ⟨p, t, rfl, h, k⟩
end
theorem BP.sl {D M n : Nat} {p : List Rat} (h : BP D M n p) (s : Sm D M) (hn : n ≤ 25) : (∀ a ∈ p, Sz 1900 a) ∧ p.length ≤ 1000 := ⟨h.sz s, by have := h.ln; omega⟩
theorem hw__law_are_three_right : ∀ ds St Q R, sp__law_are_three_right ds St Q R → t__law_are_three_right (endsD Q R) (startD ["one", "other", "third", "is_named", "found", "left", "right", "spread", "slope", "due", "told"] ds) St := by
  rintro ds S Q R ⟨p, q, r, n, rfl, ⟨hp, hq, hr⟩, hQ⟩
  have sA : Sm D0 (M0 + M0) := ⟨by decide, by decide +kernel, by decide +kernel⟩
  have a_pq := hp.addPre hq sA (by decide)
  have a_qp := hq.addPre hp sA (by decide)
  have a_qr := hq.addPre hr sA (by decide)
  have b_pq := hp.add hq
  have b_qr := hq.add hr
  have a_pqr := b_pq.addPre hr ⟨by decide, by decide +kernel, by decide +kernel⟩ (by decide)
  have a_qrp := hp.addPre b_qr ⟨by decide, by decide +kernel, by decide +kernel⟩ (by decide)
  have sM : Sm (D0 * D0) (7 * (M0 * M0)) := ⟨by decide, by decide +kernel, by decide +kernel⟩
  have mp : ∀ {u v : List Rat}, BP D0 M0 7 u → BP D0 M0 7 v → MulPre u v ∧ FitP (pMul u v) := fun hu hv => ⟨hu.mulPre hv (by decide) (by decide) (by decide) (by decide) (by decide) (by decide) (by decide +kernel) (by decide +kernel), (hu.mul hv).fit sM (by decide)⟩
  have m_pq := mp hp hq
  have m_qp := mp hq hp
  have m_pr := mp hp hr
  have m_qr := mp hq hr
  have b_mpq := hp.mul hq
  have b_mqr := hq.mul hr
  have m_pqr : MulPre (pMul p q) r ∧ FitP (pMul (pMul p q) r) := ⟨b_mpq.mulPre hr (by decide) (by decide) (by decide) (by decide) (by decide) (by decide) (by decide +kernel) (by decide +kernel), (b_mpq.mul hr).fit ⟨by decide, by decide +kernel, by decide +kernel⟩ (by decide)⟩
  have m_pqr2 : MulPre p (pMul q r) ∧ FitP (pMul p (pMul q r)) := ⟨hp.mulPre b_mqr (by decide) (by decide) (by decide) (by decide) (by decide) (by decide) (by decide +kernel) (by decide +kernel), (hp.mul b_mqr).fit ⟨by decide, by decide +kernel, by decide +kernel⟩ (by decide)⟩
  have a_spread := (hp.mul hr).addPre b_mqr ⟨by decide, by decide +kernel, by decide +kernel⟩ (by decide)
  have m_told : MulPre (pAdd p q) r ∧ FitP (pMul (pAdd p q) r) := ⟨b_pq.mulPre hr (by decide) (by decide) (by decide) (by decide) (by decide) (by decide) (by decide +kernel) (by decide +kernel), (b_pq.mul hr).fit ⟨by decide, by decide +kernel, by decide +kernel⟩ (by decide)⟩
  have bs_p := hp.slope
  have bs_q := hq.slope
  have m_s1 : MulPre (slope p) q ∧ FitP (pMul (slope p) q) := ⟨bs_p.mulPre hq (by decide) (by decide) (by decide) (by decide) (by decide) (by decide) (by decide +kernel) (by decide +kernel), (bs_p.mul hq).fit ⟨by decide, by decide +kernel, by decide +kernel⟩ (by decide)⟩
  have m_s2 : MulPre p (slope q) ∧ FitP (pMul p (slope q)) := ⟨hp.mulPre bs_q (by decide) (by decide) (by decide) (by decide) (by decide) (by decide) (by decide +kernel) (by decide +kernel), (hp.mul bs_q).fit ⟨by decide, by decide +kernel, by decide +kernel⟩ (by decide)⟩
  have a_s := (bs_p.mul hq).addPre (hp.mul bs_q) ⟨by decide, by decide +kernel, by decide +kernel⟩ (by decide)
  unfold t__law_are_three_right
  simp only [startD]
  have s0 : Sm D0 M0 := ⟨by decide, by decide +kernel, by decide +kernel⟩
  have s1 : Sm D0 (7 * M0) := ⟨by decide, by decide +kernel, by decide +kernel⟩
  have f_slope : FitP (slope (pMul p q)) := b_mpq.slope.fit ⟨by decide, by decide +kernel, by decide +kernel⟩ (by decide)
  have sl_pq := b_mpq.sl sM (by decide)
  rw [seq_step]; simp only [rsFor, rLc, wipeD, rsNext, rsDrop, rsRet, rsRetN, rsIf, rsAsg, rsPar, rsPar3, rsAug, rsSet, rsBreak, rsCont, rVar, rC, rBin, rTru, rTest, rChain, rNeg, rNot, rAnd, rOr, rIf, rAndV, rOrV, rNotV, rNil, rCons, rTup, rLst, rNone, rSome, rSl, rCall, rCallK, rBlt, rLRev, rMeth, rMeth0, rYes, wSeq, wEnum, wRev, wRng1, wRng2, addD_int, addD_tup, addD_str, addD_ref, subD_int, mulD_int, mulD_ref, mulD_tup, fdivD_int, modD_int, powD_int, cmpD_int, isD_non, isnD_non, iaddD_int, isNon_non, isNon_int, isNon_str, isNon_tup, isNon_fr, isNon_bl, eqD_int, neD_int, absD_int, intD_int, intD_bl, lenD_tup, lenD_ref, lenD_pl, listD_pl, tupleD_pl, seqW_pl, enumW_pl, revW_pl, slD_pl, isNon_pl, addD_pl, listD_tup, listD_ref, tupleD_tup, tupleD_ref, max2D_int, min2D_int, truD_int, truD_bl, truD_tup, truD_non, seqW_tup, seqW_ref, enumW_tup, enumW_ref, revW_tup, revW_ref, rngW1_int, rngW2_int, slD_tup, slD_ref, slD_frl, popD_ref, appendD_ref, extendD_ref, setD_ref, bindG_nm, bindG_tup, bindGs_nil, bindGs_cons, ixD_ref, startD, List.map_cons, List.map_nil, List.length_cons, List.length_nil, List.cons_append, List.nil_append, List.getElem?_cons_zero, List.getElem?_cons_succ, List.set_cons_zero, List.set_cons_succ, Option.some.injEq, exists_eq_left', exists_eq_left, Option.bind_some, Nat.reduceAdd, Nat.reduceSub, List.replicate_succ, List.replicate_zero, Dt.bl.injEq, Dt.int.injEq, decide_eq_true_eq, decide_eq_false_iff_not, Bool.false_eq_true, Bool.true_eq_false, if_true, if_false, Bool.not_eq_true', Bool.not_true, Bool.not_false, bne_iff_ne, ne_eq, ixD_fr0, ixD_fr1, ixD_pair0, ixD_pair1, Dt.ref.injEq, List.cons.injEq, and_true, true_and, reduceIte, exists_eq, Nat.zero_add, Dt.tup.injEq, and_self, and_assoc, exists_and_left, fr_inj, pl_inj, ite_true, ite_false]
  refine sum_of a_pq (sum_of a_qp ⟨by decide, fun q1 h1 => mul_of m_pq (mul_of m_qp ⟨by decide, fun q2 h2 => ⟨by decide, fun F hF => ?_⟩⟩)⟩)
  have z := FL.first h1 h2 hF (pair_pl add_comm' (by have := b_pq.ln; omega) (b_pq.sz sA)) (pair_pl mul_comm' (by have := b_mpq.ln; omega) (b_mpq.sz sM))
  generalize put (put (put S q1 _) q2 _) F _ = S1 at z ⊢
  generalize hL : [Dt.ref q1, Dt.ref q2] = L at z
  have hl : L.length = 2 := by rw [← hL]; rfl
  clear hL h1 h2 hF
  rw [seq_step]; simp only [rsFor, rLc, wipeD, rsNext, rsDrop, rsRet, rsRetN, rsIf, rsAsg, rsPar, rsPar3, rsAug, rsSet, rsBreak, rsCont, rVar, rC, rBin, rTru, rTest, rChain, rNeg, rNot, rAnd, rOr, rIf, rAndV, rOrV, rNotV, rNil, rCons, rTup, rLst, rNone, rSome, rSl, rCall, rCallK, rBlt, rLRev, rMeth, rMeth0, rYes, wSeq, wEnum, wRev, wRng1, wRng2, addD_int, addD_tup, addD_str, addD_ref, subD_int, mulD_int, mulD_ref, mulD_tup, fdivD_int, modD_int, powD_int, cmpD_int, isD_non, isnD_non, iaddD_int, isNon_non, isNon_int, isNon_str, isNon_tup, isNon_fr, isNon_bl, eqD_int, neD_int, absD_int, intD_int, intD_bl, lenD_tup, lenD_ref, lenD_pl, listD_pl, tupleD_pl, seqW_pl, enumW_pl, revW_pl, slD_pl, isNon_pl, addD_pl, listD_tup, listD_ref, tupleD_tup, tupleD_ref, max2D_int, min2D_int, truD_int, truD_bl, truD_tup, truD_non, seqW_tup, seqW_ref, enumW_tup, enumW_ref, revW_tup, revW_ref, rngW1_int, rngW2_int, slD_tup, slD_ref, slD_frl, popD_ref, appendD_ref, extendD_ref, setD_ref, bindG_nm, bindG_tup, bindGs_nil, bindGs_cons, ixD_ref, startD, List.map_cons, List.map_nil, List.length_cons, List.length_nil, List.cons_append, List.nil_append, List.getElem?_cons_zero, List.getElem?_cons_succ, List.set_cons_zero, List.set_cons_succ, Option.some.injEq, exists_eq_left', exists_eq_left, Option.bind_some, Nat.reduceAdd, Nat.reduceSub, List.replicate_succ, List.replicate_zero, Dt.bl.injEq, Dt.int.injEq, decide_eq_true_eq, decide_eq_false_iff_not, Bool.false_eq_true, Bool.true_eq_false, if_true, if_false, Bool.not_eq_true', Bool.not_true, Bool.not_false, bne_iff_ne, ne_eq, ixD_fr0, ixD_fr1, ixD_pair0, ixD_pair1, Dt.ref.injEq, List.cons.injEq, and_true, true_and, reduceIte, exists_eq, Nat.zero_add, Dt.tup.injEq, and_self, and_assoc, exists_and_left, fr_inj, pl_inj, ite_true, ite_false]
  refine ⟨⟨_, z.at_⟩, sum_of a_pq (sum_of a_pqr (sum_of a_qr (sum_of a_qrp ⟨by decide, fun q3 h3 => ?_⟩)))⟩
  obtain ⟨e, z⟩ := z.app h3 (pair_pl add_assoc' (by have := (b_pq.add hr).ln; omega) ((b_pq.add hr).sz ⟨by decide, by decide +kernel, by decide +kernel⟩))
  refine ⟨L, e, by rw [hl]; decide, ?_⟩
  generalize put (put S1 q3 _) F _ = S2 at z ⊢
  clear e h3
  rw [seq_step]; simp only [rsFor, rLc, wipeD, rsNext, rsDrop, rsRet, rsRetN, rsIf, rsAsg, rsPar, rsPar3, rsAug, rsSet, rsBreak, rsCont, rVar, rC, rBin, rTru, rTest, rChain, rNeg, rNot, rAnd, rOr, rIf, rAndV, rOrV, rNotV, rNil, rCons, rTup, rLst, rNone, rSome, rSl, rCall, rCallK, rBlt, rLRev, rMeth, rMeth0, rYes, wSeq, wEnum, wRev, wRng1, wRng2, addD_int, addD_tup, addD_str, addD_ref, subD_int, mulD_int, mulD_ref, mulD_tup, fdivD_int, modD_int, powD_int, cmpD_int, isD_non, isnD_non, iaddD_int, isNon_non, isNon_int, isNon_str, isNon_tup, isNon_fr, isNon_bl, eqD_int, neD_int, absD_int, intD_int, intD_bl, lenD_tup, lenD_ref, lenD_pl, listD_pl, tupleD_pl, seqW_pl, enumW_pl, revW_pl, slD_pl, isNon_pl, addD_pl, listD_tup, listD_ref, tupleD_tup, tupleD_ref, max2D_int, min2D_int, truD_int, truD_bl, truD_tup, truD_non, seqW_tup, seqW_ref, enumW_tup, enumW_ref, revW_tup, revW_ref, rngW1_int, rngW2_int, slD_tup, slD_ref, slD_frl, popD_ref, appendD_ref, extendD_ref, setD_ref, bindG_nm, bindG_tup, bindGs_nil, bindGs_cons, ixD_ref, startD, List.map_cons, List.map_nil, List.length_cons, List.length_nil, List.cons_append, List.nil_append, List.getElem?_cons_zero, List.getElem?_cons_succ, List.set_cons_zero, List.set_cons_succ, Option.some.injEq, exists_eq_left', exists_eq_left, Option.bind_some, Nat.reduceAdd, Nat.reduceSub, List.replicate_succ, List.replicate_zero, Dt.bl.injEq, Dt.int.injEq, decide_eq_true_eq, decide_eq_false_iff_not, Bool.false_eq_true, Bool.true_eq_false, if_true, if_false, Bool.not_eq_true', Bool.not_true, Bool.not_false, bne_iff_ne, ne_eq, ixD_fr0, ixD_fr1, ixD_pair0, ixD_pair1, Dt.ref.injEq, List.cons.injEq, and_true, true_and, reduceIte, exists_eq, Nat.zero_add, Dt.tup.injEq, and_self, and_assoc, exists_and_left, fr_inj, pl_inj, ite_true, ite_false]
  refine mul_of m_pq (mul_of m_pqr ?_)
  rw [seq_step]; simp only [rsFor, rLc, wipeD, rsNext, rsDrop, rsRet, rsRetN, rsIf, rsAsg, rsPar, rsPar3, rsAug, rsSet, rsBreak, rsCont, rVar, rC, rBin, rTru, rTest, rChain, rNeg, rNot, rAnd, rOr, rIf, rAndV, rOrV, rNotV, rNil, rCons, rTup, rLst, rNone, rSome, rSl, rCall, rCallK, rBlt, rLRev, rMeth, rMeth0, rYes, wSeq, wEnum, wRev, wRng1, wRng2, addD_int, addD_tup, addD_str, addD_ref, subD_int, mulD_int, mulD_ref, mulD_tup, fdivD_int, modD_int, powD_int, cmpD_int, isD_non, isnD_non, iaddD_int, isNon_non, isNon_int, isNon_str, isNon_tup, isNon_fr, isNon_bl, eqD_int, neD_int, absD_int, intD_int, intD_bl, lenD_tup, lenD_ref, lenD_pl, listD_pl, tupleD_pl, seqW_pl, enumW_pl, revW_pl, slD_pl, isNon_pl, addD_pl, listD_tup, listD_ref, tupleD_tup, tupleD_ref, max2D_int, min2D_int, truD_int, truD_bl, truD_tup, truD_non, seqW_tup, seqW_ref, enumW_tup, enumW_ref, revW_tup, revW_ref, rngW1_int, rngW2_int, slD_tup, slD_ref, slD_frl, popD_ref, appendD_ref, extendD_ref, setD_ref, bindG_nm, bindG_tup, bindGs_nil, bindGs_cons, ixD_ref, startD, List.map_cons, List.map_nil, List.length_cons, List.length_nil, List.cons_append, List.nil_append, List.getElem?_cons_zero, List.getElem?_cons_succ, List.set_cons_zero, List.set_cons_succ, Option.some.injEq, exists_eq_left', exists_eq_left, Option.bind_some, Nat.reduceAdd, Nat.reduceSub, List.replicate_succ, List.replicate_zero, Dt.bl.injEq, Dt.int.injEq, decide_eq_true_eq, decide_eq_false_iff_not, Bool.false_eq_true, Bool.true_eq_false, if_true, if_false, Bool.not_eq_true', Bool.not_true, Bool.not_false, bne_iff_ne, ne_eq, ixD_fr0, ixD_fr1, ixD_pair0, ixD_pair1, Dt.ref.injEq, List.cons.injEq, and_true, true_and, reduceIte, exists_eq, Nat.zero_add, Dt.tup.injEq, and_self, and_assoc, exists_and_left, fr_inj, pl_inj, ite_true, ite_false]
  refine mul_of m_qr (mul_of m_pqr2 ?_)
  rw [seq_step]; simp only [rsFor, rLc, wipeD, rsNext, rsDrop, rsRet, rsRetN, rsIf, rsAsg, rsPar, rsPar3, rsAug, rsSet, rsBreak, rsCont, rVar, rC, rBin, rTru, rTest, rChain, rNeg, rNot, rAnd, rOr, rIf, rAndV, rOrV, rNotV, rNil, rCons, rTup, rLst, rNone, rSome, rSl, rCall, rCallK, rBlt, rLRev, rMeth, rMeth0, rYes, wSeq, wEnum, wRev, wRng1, wRng2, addD_int, addD_tup, addD_str, addD_ref, subD_int, mulD_int, mulD_ref, mulD_tup, fdivD_int, modD_int, powD_int, cmpD_int, isD_non, isnD_non, iaddD_int, isNon_non, isNon_int, isNon_str, isNon_tup, isNon_fr, isNon_bl, eqD_int, neD_int, absD_int, intD_int, intD_bl, lenD_tup, lenD_ref, lenD_pl, listD_pl, tupleD_pl, seqW_pl, enumW_pl, revW_pl, slD_pl, isNon_pl, addD_pl, listD_tup, listD_ref, tupleD_tup, tupleD_ref, max2D_int, min2D_int, truD_int, truD_bl, truD_tup, truD_non, seqW_tup, seqW_ref, enumW_tup, enumW_ref, revW_tup, revW_ref, rngW1_int, rngW2_int, slD_tup, slD_ref, slD_frl, popD_ref, appendD_ref, extendD_ref, setD_ref, bindG_nm, bindG_tup, bindGs_nil, bindGs_cons, ixD_ref, startD, List.map_cons, List.map_nil, List.length_cons, List.length_nil, List.cons_append, List.nil_append, List.getElem?_cons_zero, List.getElem?_cons_succ, List.set_cons_zero, List.set_cons_succ, Option.some.injEq, exists_eq_left', exists_eq_left, Option.bind_some, Nat.reduceAdd, Nat.reduceSub, List.replicate_succ, List.replicate_zero, Dt.bl.injEq, Dt.int.injEq, decide_eq_true_eq, decide_eq_false_iff_not, Bool.false_eq_true, Bool.true_eq_false, if_true, if_false, Bool.not_eq_true', Bool.not_true, Bool.not_false, bne_iff_ne, ne_eq, ixD_fr0, ixD_fr1, ixD_pair0, ixD_pair1, Dt.ref.injEq, List.cons.injEq, and_true, true_and, reduceIte, exists_eq, Nat.zero_add, Dt.tup.injEq, and_self, and_assoc, exists_and_left, fr_inj, pl_inj, ite_true, ite_false]
  refine ⟨⟨_, z.at_⟩, by decide, fun q4 h4 => ?_⟩
  obtain ⟨e, z⟩ := z.app h4 (pair_pl mul_assoc' (by have := (b_mpq.mul hr).ln; omega) ((b_mpq.mul hr).sz ⟨by decide, by decide +kernel, by decide +kernel⟩))
  refine ⟨_, e, by simp only [List.length_append, List.length_cons, List.length_nil, hl]; decide, ?_⟩
  generalize put (put S2 q4 _) F _ = S3 at z ⊢
  clear e h4
  rw [seq_step]; simp only [rsFor, rLc, wipeD, rsNext, rsDrop, rsRet, rsRetN, rsIf, rsAsg, rsPar, rsPar3, rsAug, rsSet, rsBreak, rsCont, rVar, rC, rBin, rTru, rTest, rChain, rNeg, rNot, rAnd, rOr, rIf, rAndV, rOrV, rNotV, rNil, rCons, rTup, rLst, rNone, rSome, rSl, rCall, rCallK, rBlt, rLRev, rMeth, rMeth0, rYes, wSeq, wEnum, wRev, wRng1, wRng2, addD_int, addD_tup, addD_str, addD_ref, subD_int, mulD_int, mulD_ref, mulD_tup, fdivD_int, modD_int, powD_int, cmpD_int, isD_non, isnD_non, iaddD_int, isNon_non, isNon_int, isNon_str, isNon_tup, isNon_fr, isNon_bl, eqD_int, neD_int, absD_int, intD_int, intD_bl, lenD_tup, lenD_ref, lenD_pl, listD_pl, tupleD_pl, seqW_pl, enumW_pl, revW_pl, slD_pl, isNon_pl, addD_pl, listD_tup, listD_ref, tupleD_tup, tupleD_ref, max2D_int, min2D_int, truD_int, truD_bl, truD_tup, truD_non, seqW_tup, seqW_ref, enumW_tup, enumW_ref, revW_tup, revW_ref, rngW1_int, rngW2_int, slD_tup, slD_ref, slD_frl, popD_ref, appendD_ref, extendD_ref, setD_ref, bindG_nm, bindG_tup, bindGs_nil, bindGs_cons, ixD_ref, startD, List.map_cons, List.map_nil, List.length_cons, List.length_nil, List.cons_append, List.nil_append, List.getElem?_cons_zero, List.getElem?_cons_succ, List.set_cons_zero, List.set_cons_succ, Option.some.injEq, exists_eq_left', exists_eq_left, Option.bind_some, Nat.reduceAdd, Nat.reduceSub, List.replicate_succ, List.replicate_zero, Dt.bl.injEq, Dt.int.injEq, decide_eq_true_eq, decide_eq_false_iff_not, Bool.false_eq_true, Bool.true_eq_false, if_true, if_false, Bool.not_eq_true', Bool.not_true, Bool.not_false, bne_iff_ne, ne_eq, ixD_fr0, ixD_fr1, ixD_pair0, ixD_pair1, Dt.ref.injEq, List.cons.injEq, and_true, true_and, reduceIte, exists_eq, Nat.zero_add, Dt.tup.injEq, and_self, and_assoc, exists_and_left, fr_inj, pl_inj, ite_true, ite_false]
  refine mul_of m_pr (mul_of m_qr (sum_of a_spread ?_))
  have tail : rsSeq (rsDrop (rMeth appendD (rVar 4) (rCons (rLst (rCons (rVar 10) (rCons (rVar 7) rNil))) rNil))) u__three (endsD Q R)
      [some (pl p), some (pl q), some (pl r), some (Dt.bl n), some (Dt.ref F), some (pl (pMul (pMul p q) r)), some (pl (pMul p (pMul q r))), some (pl (pAdd (pMul p r) (pMul q r))), none, none, some (pl (pMul (pAdd p q) r))] S3 := by
    rw [seq_step]; simp only [rsFor, rLc, wipeD, rsNext, rsDrop, rsRet, rsRetN, rsIf, rsAsg, rsPar, rsPar3, rsAug, rsSet, rsBreak, rsCont, rVar, rC, rBin, rTru, rTest, rChain, rNeg, rNot, rAnd, rOr, rIf, rAndV, rOrV, rNotV, rNil, rCons, rTup, rLst, rNone, rSome, rSl, rCall, rCallK, rBlt, rLRev, rMeth, rMeth0, rYes, wSeq, wEnum, wRev, wRng1, wRng2, addD_int, addD_tup, addD_str, addD_ref, subD_int, mulD_int, mulD_ref, mulD_tup, fdivD_int, modD_int, powD_int, cmpD_int, isD_non, isnD_non, iaddD_int, isNon_non, isNon_int, isNon_str, isNon_tup, isNon_fr, isNon_bl, eqD_int, neD_int, absD_int, intD_int, intD_bl, lenD_tup, lenD_ref, lenD_pl, listD_pl, tupleD_pl, seqW_pl, enumW_pl, revW_pl, slD_pl, isNon_pl, addD_pl, listD_tup, listD_ref, tupleD_tup, tupleD_ref, max2D_int, min2D_int, truD_int, truD_bl, truD_tup, truD_non, seqW_tup, seqW_ref, enumW_tup, enumW_ref, revW_tup, revW_ref, rngW1_int, rngW2_int, slD_tup, slD_ref, slD_frl, popD_ref, appendD_ref, extendD_ref, setD_ref, bindG_nm, bindG_tup, bindGs_nil, bindGs_cons, ixD_ref, startD, List.map_cons, List.map_nil, List.length_cons, List.length_nil, List.cons_append, List.nil_append, List.getElem?_cons_zero, List.getElem?_cons_succ, List.set_cons_zero, List.set_cons_succ, Option.some.injEq, exists_eq_left', exists_eq_left, Option.bind_some, Nat.reduceAdd, Nat.reduceSub, List.replicate_succ, List.replicate_zero, Dt.bl.injEq, Dt.int.injEq, decide_eq_true_eq, decide_eq_false_iff_not, Bool.false_eq_true, Bool.true_eq_false, if_true, if_false, Bool.not_eq_true', Bool.not_true, Bool.not_false, bne_iff_ne, ne_eq, ixD_fr0, ixD_fr1, ixD_pair0, ixD_pair1, Dt.ref.injEq, List.cons.injEq, and_true, true_and, reduceIte, exists_eq, Nat.zero_add, Dt.tup.injEq, and_self, and_assoc, exists_and_left, fr_inj, pl_inj, ite_true, ite_false]
    refine ⟨⟨_, z.at_⟩, by decide, fun q5 h5 => ?_⟩
    obtain ⟨e, z⟩ := z.app h5 (pair_pl mul_spread (by have := (b_pq.mul hr).ln; omega) ((b_pq.mul hr).sz ⟨by decide, by decide +kernel, by decide +kernel⟩))
    refine ⟨_, e, by simp only [List.length_append, List.length_cons, List.length_nil, hl]; decide, ?_⟩
    generalize put (put S3 q5 _) F _ = S4 at z ⊢
    clear e h5
    unfold u__three
    rw [seq_step]; simp only [rsFor, rLc, wipeD, rsNext, rsDrop, rsRet, rsRetN, rsIf, rsAsg, rsPar, rsPar3, rsAug, rsSet, rsBreak, rsCont, rVar, rC, rBin, rTru, rTest, rChain, rNeg, rNot, rAnd, rOr, rIf, rAndV, rOrV, rNotV, rNil, rCons, rTup, rLst, rNone, rSome, rSl, rCall, rCallK, rBlt, rLRev, rMeth, rMeth0, rYes, wSeq, wEnum, wRev, wRng1, wRng2, addD_int, addD_tup, addD_str, addD_ref, subD_int, mulD_int, mulD_ref, mulD_tup, fdivD_int, modD_int, powD_int, cmpD_int, isD_non, isnD_non, iaddD_int, isNon_non, isNon_int, isNon_str, isNon_tup, isNon_fr, isNon_bl, eqD_int, neD_int, absD_int, intD_int, intD_bl, lenD_tup, lenD_ref, lenD_pl, listD_pl, tupleD_pl, seqW_pl, enumW_pl, revW_pl, slD_pl, isNon_pl, addD_pl, listD_tup, listD_ref, tupleD_tup, tupleD_ref, max2D_int, min2D_int, truD_int, truD_bl, truD_tup, truD_non, seqW_tup, seqW_ref, enumW_tup, enumW_ref, revW_tup, revW_ref, rngW1_int, rngW2_int, slD_tup, slD_ref, slD_frl, popD_ref, appendD_ref, extendD_ref, setD_ref, bindG_nm, bindG_tup, bindGs_nil, bindGs_cons, ixD_ref, startD, List.map_cons, List.map_nil, List.length_cons, List.length_nil, List.cons_append, List.nil_append, List.getElem?_cons_zero, List.getElem?_cons_succ, List.set_cons_zero, List.set_cons_succ, Option.some.injEq, exists_eq_left', exists_eq_left, Option.bind_some, Nat.reduceAdd, Nat.reduceSub, List.replicate_succ, List.replicate_zero, Dt.bl.injEq, Dt.int.injEq, decide_eq_true_eq, decide_eq_false_iff_not, Bool.false_eq_true, Bool.true_eq_false, if_true, if_false, Bool.not_eq_true', Bool.not_true, Bool.not_false, bne_iff_ne, ne_eq, ixD_fr0, ixD_fr1, ixD_pair0, ixD_pair1, Dt.ref.injEq, List.cons.injEq, and_true, true_and, reduceIte, exists_eq, Nat.zero_add, Dt.tup.injEq, and_self, and_assoc, exists_and_left, fr_inj, pl_inj, ite_true, ite_false]
    refine ⟨⟨_, z.at_⟩, lsum_of a_pq (by have := hp.ln; omega) (by have := hq.ln; omega) (lmul_of m_told.1 ⟨by decide, fun q6 h6 => ?_⟩)⟩
    obtain ⟨e, z⟩ := z.app h6 (pair_pl rfl (by have := (b_pq.mul hr).ln; omega) ((b_pq.mul hr).sz ⟨by decide, by decide +kernel, by decide +kernel⟩))
    refine ⟨_, e, by simp only [List.length_append, List.length_cons, List.length_nil, hl]; decide, ?_⟩
    generalize put (put S4 q6 _) F _ = S5 at z ⊢
    clear e h6
    rw [seq_step]; simp only [rsFor, rLc, wipeD, rsNext, rsDrop, rsRet, rsRetN, rsIf, rsAsg, rsPar, rsPar3, rsAug, rsSet, rsBreak, rsCont, rVar, rC, rBin, rTru, rTest, rChain, rNeg, rNot, rAnd, rOr, rIf, rAndV, rOrV, rNotV, rNil, rCons, rTup, rLst, rNone, rSome, rSl, rCall, rCallK, rBlt, rLRev, rMeth, rMeth0, rYes, wSeq, wEnum, wRev, wRng1, wRng2, addD_int, addD_tup, addD_str, addD_ref, subD_int, mulD_int, mulD_ref, mulD_tup, fdivD_int, modD_int, powD_int, cmpD_int, isD_non, isnD_non, iaddD_int, isNon_non, isNon_int, isNon_str, isNon_tup, isNon_fr, isNon_bl, eqD_int, neD_int, absD_int, intD_int, intD_bl, lenD_tup, lenD_ref, lenD_pl, listD_pl, tupleD_pl, seqW_pl, enumW_pl, revW_pl, slD_pl, isNon_pl, addD_pl, listD_tup, listD_ref, tupleD_tup, tupleD_ref, max2D_int, min2D_int, truD_int, truD_bl, truD_tup, truD_non, seqW_tup, seqW_ref, enumW_tup, enumW_ref, revW_tup, revW_ref, rngW1_int, rngW2_int, slD_tup, slD_ref, slD_frl, popD_ref, appendD_ref, extendD_ref, setD_ref, bindG_nm, bindG_tup, bindGs_nil, bindGs_cons, ixD_ref, startD, List.map_cons, List.map_nil, List.length_cons, List.length_nil, List.cons_append, List.nil_append, List.getElem?_cons_zero, List.getElem?_cons_succ, List.set_cons_zero, List.set_cons_succ, Option.some.injEq, exists_eq_left', exists_eq_left, Option.bind_some, Nat.reduceAdd, Nat.reduceSub, List.replicate_succ, List.replicate_zero, Dt.bl.injEq, Dt.int.injEq, decide_eq_true_eq, decide_eq_false_iff_not, Bool.false_eq_true, Bool.true_eq_false, if_true, if_false, Bool.not_eq_true', Bool.not_true, Bool.not_false, bne_iff_ne, ne_eq, ixD_fr0, ixD_fr1, ixD_pair0, ixD_pair1, Dt.ref.injEq, List.cons.injEq, and_true, true_and, reduceIte, exists_eq, Nat.zero_add, Dt.tup.injEq, and_self, and_assoc, exists_and_left, fr_inj, pl_inj, ite_true, ite_false]
    refine mul_of m_pq (slope_of' sl_pq f_slope ?_)
    rw [seq_step]; simp only [rsFor, rLc, wipeD, rsNext, rsDrop, rsRet, rsRetN, rsIf, rsAsg, rsPar, rsPar3, rsAug, rsSet, rsBreak, rsCont, rVar, rC, rBin, rTru, rTest, rChain, rNeg, rNot, rAnd, rOr, rIf, rAndV, rOrV, rNotV, rNil, rCons, rTup, rLst, rNone, rSome, rSl, rCall, rCallK, rBlt, rLRev, rMeth, rMeth0, rYes, wSeq, wEnum, wRev, wRng1, wRng2, addD_int, addD_tup, addD_str, addD_ref, subD_int, mulD_int, mulD_ref, mulD_tup, fdivD_int, modD_int, powD_int, cmpD_int, isD_non, isnD_non, iaddD_int, isNon_non, isNon_int, isNon_str, isNon_tup, isNon_fr, isNon_bl, eqD_int, neD_int, absD_int, intD_int, intD_bl, lenD_tup, lenD_ref, lenD_pl, listD_pl, tupleD_pl, seqW_pl, enumW_pl, revW_pl, slD_pl, isNon_pl, addD_pl, listD_tup, listD_ref, tupleD_tup, tupleD_ref, max2D_int, min2D_int, truD_int, truD_bl, truD_tup, truD_non, seqW_tup, seqW_ref, enumW_tup, enumW_ref, revW_tup, revW_ref, rngW1_int, rngW2_int, slD_tup, slD_ref, slD_frl, popD_ref, appendD_ref, extendD_ref, setD_ref, bindG_nm, bindG_tup, bindGs_nil, bindGs_cons, ixD_ref, startD, List.map_cons, List.map_nil, List.length_cons, List.length_nil, List.cons_append, List.nil_append, List.getElem?_cons_zero, List.getElem?_cons_succ, List.set_cons_zero, List.set_cons_succ, Option.some.injEq, exists_eq_left', exists_eq_left, Option.bind_some, Nat.reduceAdd, Nat.reduceSub, List.replicate_succ, List.replicate_zero, Dt.bl.injEq, Dt.int.injEq, decide_eq_true_eq, decide_eq_false_iff_not, Bool.false_eq_true, Bool.true_eq_false, if_true, if_false, Bool.not_eq_true', Bool.not_true, Bool.not_false, bne_iff_ne, ne_eq, ixD_fr0, ixD_fr1, ixD_pair0, ixD_pair1, Dt.ref.injEq, List.cons.injEq, and_true, true_and, reduceIte, exists_eq, Nat.zero_add, Dt.tup.injEq, and_self, and_assoc, exists_and_left, fr_inj, pl_inj, ite_true, ite_false]
    refine slope_of' (hp.sl s0 (by decide)) (bs_p.fit s1 (by decide)) (mul_of m_s1 (slope_of' (hq.sl s0 (by decide)) (bs_q.fit s1 (by decide)) (mul_of m_s2 (sum_of a_s ?_))))
    rw [seq_step]; simp only [rsFor, rLc, wipeD, rsNext, rsDrop, rsRet, rsRetN, rsIf, rsAsg, rsPar, rsPar3, rsAug, rsSet, rsBreak, rsCont, rVar, rC, rBin, rTru, rTest, rChain, rNeg, rNot, rAnd, rOr, rIf, rAndV, rOrV, rNotV, rNil, rCons, rTup, rLst, rNone, rSome, rSl, rCall, rCallK, rBlt, rLRev, rMeth, rMeth0, rYes, wSeq, wEnum, wRev, wRng1, wRng2, addD_int, addD_tup, addD_str, addD_ref, subD_int, mulD_int, mulD_ref, mulD_tup, fdivD_int, modD_int, powD_int, cmpD_int, isD_non, isnD_non, iaddD_int, isNon_non, isNon_int, isNon_str, isNon_tup, isNon_fr, isNon_bl, eqD_int, neD_int, absD_int, intD_int, intD_bl, lenD_tup, lenD_ref, lenD_pl, listD_pl, tupleD_pl, seqW_pl, enumW_pl, revW_pl, slD_pl, isNon_pl, addD_pl, listD_tup, listD_ref, tupleD_tup, tupleD_ref, max2D_int, min2D_int, truD_int, truD_bl, truD_tup, truD_non, seqW_tup, seqW_ref, enumW_tup, enumW_ref, revW_tup, revW_ref, rngW1_int, rngW2_int, slD_tup, slD_ref, slD_frl, popD_ref, appendD_ref, extendD_ref, setD_ref, bindG_nm, bindG_tup, bindGs_nil, bindGs_cons, ixD_ref, startD, List.map_cons, List.map_nil, List.length_cons, List.length_nil, List.cons_append, List.nil_append, List.getElem?_cons_zero, List.getElem?_cons_succ, List.set_cons_zero, List.set_cons_succ, Option.some.injEq, exists_eq_left', exists_eq_left, Option.bind_some, Nat.reduceAdd, Nat.reduceSub, List.replicate_succ, List.replicate_zero, Dt.bl.injEq, Dt.int.injEq, decide_eq_true_eq, decide_eq_false_iff_not, Bool.false_eq_true, Bool.true_eq_false, if_true, if_false, Bool.not_eq_true', Bool.not_true, Bool.not_false, bne_iff_ne, ne_eq, ixD_fr0, ixD_fr1, ixD_pair0, ixD_pair1, Dt.ref.injEq, List.cons.injEq, and_true, true_and, reduceIte, exists_eq, Nat.zero_add, Dt.tup.injEq, and_self, and_assoc, exists_and_left, fr_inj, pl_inj, ite_true, ite_false]
    refine ⟨⟨_, z.at_⟩, by decide, fun q7 h7 => ?_⟩
    obtain ⟨e, z⟩ := z.app h7 (pair_pl slope_mul (by have := b_mpq.slope.ln; omega) (b_mpq.slope.sz ⟨by decide, by decide +kernel, by decide +kernel⟩))
    refine ⟨_, e, by simp only [List.length_append, List.length_cons, List.length_nil, hl]; decide, ?_⟩
    generalize put (put S5 q7 _) F _ = S6 at z ⊢
    clear e h7
    exact z.all (by simp only [List.length_append, List.length_cons, List.length_nil, hl]; decide) hQ
  rw [seq_step]; simp only [rsFor, rLc, wipeD, rsNext, rsDrop, rsRet, rsRetN, rsIf, rsAsg, rsPar, rsPar3, rsAug, rsSet, rsBreak, rsCont, rVar, rC, rBin, rTru, rTest, rChain, rNeg, rNot, rAnd, rOr, rIf, rAndV, rOrV, rNotV, rNil, rCons, rTup, rLst, rNone, rSome, rSl, rCall, rCallK, rBlt, rLRev, rMeth, rMeth0, rYes, wSeq, wEnum, wRev, wRng1, wRng2, addD_int, addD_tup, addD_str, addD_ref, subD_int, mulD_int, mulD_ref, mulD_tup, fdivD_int, modD_int, powD_int, cmpD_int, isD_non, isnD_non, iaddD_int, isNon_non, isNon_int, isNon_str, isNon_tup, isNon_fr, isNon_bl, eqD_int, neD_int, absD_int, intD_int, intD_bl, lenD_tup, lenD_ref, lenD_pl, listD_pl, tupleD_pl, seqW_pl, enumW_pl, revW_pl, slD_pl, isNon_pl, addD_pl, listD_tup, listD_ref, tupleD_tup, tupleD_ref, max2D_int, min2D_int, truD_int, truD_bl, truD_tup, truD_non, seqW_tup, seqW_ref, enumW_tup, enumW_ref, revW_tup, revW_ref, rngW1_int, rngW2_int, slD_tup, slD_ref, slD_frl, popD_ref, appendD_ref, extendD_ref, setD_ref, bindG_nm, bindG_tup, bindGs_nil, bindGs_cons, ixD_ref, startD, List.map_cons, List.map_nil, List.length_cons, List.length_nil, List.cons_append, List.nil_append, List.getElem?_cons_zero, List.getElem?_cons_succ, List.set_cons_zero, List.set_cons_succ, Option.some.injEq, exists_eq_left', exists_eq_left, Option.bind_some, Nat.reduceAdd, Nat.reduceSub, List.replicate_succ, List.replicate_zero, Dt.bl.injEq, Dt.int.injEq, decide_eq_true_eq, decide_eq_false_iff_not, Bool.false_eq_true, Bool.true_eq_false, if_true, if_false, Bool.not_eq_true', Bool.not_true, Bool.not_false, bne_iff_ne, ne_eq, ixD_fr0, ixD_fr1, ixD_pair0, ixD_pair1, Dt.ref.injEq, List.cons.injEq, and_true, true_and, reduceIte, exists_eq, Nat.zero_add, Dt.tup.injEq, and_self, and_assoc, exists_and_left, fr_inj, pl_inj, ite_true, ite_false]
  split
  · exact sum_of a_pq (mul_of m_told tail)
  · exact sum_of a_pq (mul_of m_told tail)
theorem len__law_are_three_right : ∀ ds S Q R, sp__law_are_three_right ds S Q R → ds.length = 4 := by rintro ds S Q R ⟨p, q, r, n, rfl, _⟩; rfl
end Ev

namespace Ev
open PySem PySem.Spec PyProof.Rows L2
def sp__law_are_two_right : SpD := fun ds S Q _ => ∃ (a b : Addr) (p q : List Rat) (n : Bool), ds = [.ref a, pl p, pl q, .bl n] ∧ (BagAt S a b ∧ BP D0 M0 7 p ∧ BP D0 M0 7 q) ∧ ∀ S', BagAt S' a b → Keep a b S S' → Q (.bl true) S'
def u__two : RS := rsSeq (rsAsg (rLc (wSeq (rTup (rCons (rVar 1) (rCons (rVar 2) rNil)))) (Tg.nm 11) rYes (rCall sp__law_poly_at (rCons (rVar 11) (rCons (rVar 7) rNil))) [11]) (Tg.nm 4)) (rsSeq (rsAsg (rLst (rCons (rVar 8) (rCons (rVar 9) (rCons (rCall sp__law_poly_scaled (rCons (rVar 6) (rCons (rVar 1) rNil))) (rCons (rBin ixD (rVar 4) (rC (Dt.int 0))) (rCons (rCall sp__law_poly_slope (rCons (rVar 1) rNil)) (rCons (rCall sp__law_times (rCons (rBin ixD (rVar 4) (rC (Dt.int 0))) (rCons (rBin ixD (rVar 4) (rC (Dt.int 1))) rNil))) rNil))))))) (Tg.nm 5)) (rsSeq (rsIf (rNot (rTru (rCall sp__law_is (rCons (rVar 10) (rCons (rVar 5) rNil))))) (rsRet (rC (Dt.bl false))) rsNext) (rsRet (rCall sp__law_is (rCons (rCallK sp_poly_at 0 [1, 0] rNil (rCons (rVar 7) (rCons (rVar 8) rNil))) (rCons (rCall sp__law_plus (rCons (rBin ixD (rVar 4) (rC (Dt.int 0))) (rCons (rBin ixD (rVar 4) (rC (Dt.int 1))) rNil))) rNil))))))
def t__law_are_two_right : RS := rsSeq (rsAsg (rTup (rCons (rCall sp__law_pick (rCons (rVar 0) (rCons (rLst (rCons (rTup (rCons (rC (Dt.int 0)) (rCons (rC (Dt.int 1)) rNil))) (rCons (rTup (rCons (rC (Dt.int 1)) (rCons (rC (Dt.int 1)) rNil))) (rCons (rCall sp__law_small (rCons (rVar 0) rNil)) (rCons (rCall sp__law_fraction (rCons (rVar 0) rNil)) rNil))))) rNil))) (rCons (rCall sp__law_small (rCons (rVar 0) rNil)) rNil))) (Tg.tup [Tg.nm 6, Tg.nm 7])) (rsSeq (rsPar 8 9 (rCons (rCall sp__law_poly_plus (rCons (rVar 1) (rCons (rVar 2) rNil))) (rCons (rCall sp__law_poly_times (rCons (rVar 1) (rCons (rVar 2) rNil))) rNil))) (rsSeq (rsIf (rTru (rVar 3)) (rsSeq (rsAsg (rLst (rCons (rCallK sp_poly_sum 0 [1, 0] rNil (rCons (rVar 2) (rCons (rVar 1) rNil))) (rCons (rCallK sp_poly_product 0 [1, 0] rNil (rCons (rVar 2) (rCons (rVar 1) rNil))) (rCons (rCallK sp_poly_scaled 0 [1, 0] rNil (rCons (rVar 1) (rCons (rVar 6) rNil))) rNil)))) (Tg.nm 10)) (rsDrop (rMeth extendD (rVar 10) (rCons (rLst (rCons (rCallK sp_poly_at 0 [1, 0] rNil (rCons (rVar 7) (rCons (rVar 1) rNil))) (rCons (rCallK sp_poly_slope 0 [0] rNil (rCons (rVar 1) rNil)) (rCons (rCallK sp_poly_at 0 [1, 0] rNil (rCons (rVar 7) (rCons (rVar 9) rNil))) rNil)))) rNil)))) (rsSeq (rsAsg (rLst (rCons (rCall sp_poly_sum (rCons (rVar 1) (rCons (rVar 2) rNil))) (rCons (rCall sp_poly_product (rCons (rVar 1) (rCons (rVar 2) rNil))) (rCons (rCall sp_poly_scaled (rCons (rVar 6) (rCons (rVar 1) rNil))) (rCons (rCall sp_poly_at (rCons (rVar 1) (rCons (rVar 7) rNil))) rNil))))) (Tg.nm 10)) (rsDrop (rMeth extendD (rVar 10) (rCons (rLst (rCons (rCall sp_poly_slope (rCons (rVar 1) rNil)) (rCons (rCall sp_poly_at (rCons (rVar 9) (rCons (rVar 7) rNil))) rNil))) rNil))))) u__two))

theorem small_of {S : Sto} {Q : QD} {R : XD → Sto → Prop} {a b : Addr} (hB : BagAt S a b) (h : ∀ q S', W 12 6 q → BagAt S' a b → Keep a b S S' → Q (fr q) S') : sp__law_small [.ref a] S Q R := ⟨a, b, rfl, hB, h⟩
theorem fraction_of {S : Sto} {Q : QD} {R : XD → Sto → Prop} {a b : Addr} (hB : BagAt S a b) (h : ∀ q S', W D0 M0 q → BagAt S' a b → Keep a b S S' → Q (fr q) S') : sp__law_fraction [.ref a] S Q R := ⟨a, b, rfl, hB, h⟩
theorem W.d0 {q : Rat} (h : W 12 6 q) : W D0 M0 q := (h.up (E := 5000000)).mono (by decide)
theorem ext_build {S S4 : Sto} {a b T E : Addr} {xs ys zs : List Dt} (hB : BagAt S4 a b) (hK : Keep a b S S4) (hT : S4 T = none) (hE : put S4 T (.lst xs) E = none) :
    put (put S4 T (.lst xs)) E (.lst ys) T = some (.lst xs) ∧ BagAt (put (put (put S4 T (.lst xs)) E (.lst ys)) T (.lst zs)) a b ∧ Keep a b S (put (put (put S4 T (.lst xs)) E (.lst ys)) T (.lst zs)) := by
  have hne : T ≠ E := fun e => by rw [← e, put_same] at hE; cases hE
  obtain ⟨n1, n2⟩ := hB.nep hT
  have fT : S T = none := by
    cases h : S T with
    | none => rfl
    | some o => rw [hK T o n1 n2 h] at hT; cases hT
  refine ⟨by rw [put_ne hne, put_same], ((hB.new hT).new hE).other n1 n2, ?_⟩
  exact ((hK.trans (.new hT)).trans (.new hE)).putN fT
theorem six_ni {p1 p2 p3 p5 : List Rat} {r4 r6 : Rat} (h1 : ∀ x ∈ p1, Sz 1900 x) (h2 : ∀ x ∈ p2, Sz 1900 x) (h3 : ∀ x ∈ p3, Sz 1900 x) (h5 : ∀ x ∈ p5, Sz 1900 x) (h4 : Sz 1900 r4) (h6 : Sz 1900 r6)
    (l1 : p1.length ≤ 100) (l2 : p2.length ≤ 100) (l3 : p3.length ≤ 100) (l5 : p5.length ≤ 100) : ∃ d, ∀ (S : Sto) (T : Addr), lstOf S T = some [pl p1, pl p2, pl p3, fr r4, pl p5, fr r6] → Ni S 60 8000 (.ref T) d := by
  refine ⟨.list [ppl p1, ppl p2, ppl p3, pfr r4, ppl p5, pfr r6], fun S T e => ?_⟩
  have q : NiL S 2 2000 [pl p1, pl p2, pl p3, fr r4, pl p5, fr r6] [ppl p1, ppl p2, ppl p3, pfr r4, ppl p5, pfr r6] :=
    (NiL.cons (Ni.pl h1) (.cons (Ni.pl h2) (.cons (Ni.pl h3) (.cons ((Ni.fr h4).mono (by omega) (Nat.le_refl _)) (.cons (Ni.pl h5) (.cons ((Ni.fr h6).mono (by omega) (Nat.le_refl _)) .nil)))))).mono (Nat.le_refl _) (by omega)
  exact (Ni.lst e q).mono (by omega) (by omega)
theorem is_of {S : Sto} {Q : QD} {R : XD → Sto → Prop} {x y : Dt} {p : PyData} (h1 : Ni S 60 8000 x p) (h2 : Ni S 60 8000 y p) (h : Q (.bl true) S) : sp__law_is [x, y] S Q R := ⟨x, y, p, rfl, ⟨h1, h2⟩, h⟩
theorem ltimes_of {S : Sto} {Q : QD} {R : XD → Sto → Prop} {x y : Rat} (h1 : Sz 1900 x) (h2 : Sz 1900 y) (h : Q (fr (x * y)) S) : sp__law_times [fr x, fr y] S Q R := ⟨x, y, rfl, ⟨sz_mono h1 (by omega), sz_mono h2 (by omega)⟩, h⟩
theorem lplus_of {S : Sto} {Q : QD} {R : XD → Sto → Prop} {x y : Rat} (h1 : Sz 1900 x) (h2 : Sz 1900 y) (h : Q (fr (x + y)) S) : sp__law_plus [fr x, fr y] S Q R := ⟨x, y, rfl, ⟨sz_mono h1 (by omega), sz_mono h2 (by omega)⟩, h⟩
theorem hw__law_are_two_right : ∀ ds St Q R, sp__law_are_two_right ds St Q R → t__law_are_two_right (endsD Q R) (startD ["bag", "one", "other", "is_named", "value", "due", "f", "t", "both", "product", "told", "own"] ds) St := by
  rintro ds S Q R ⟨a, b, p, q, n, rfl, ⟨hB, hp, hq⟩, hQ⟩
  unfold t__law_are_two_right
  simp only [startD]
  rw [seq_step]; simp only [rsFor, rLc, wipeD, rsNext, rsDrop, rsRet, rsRetN, rsIf, rsAsg, rsPar, rsPar3, rsAug, rsSet, rsBreak, rsCont, rVar, rC, rBin, rTru, rTest, rChain, rNeg, rNot, rAnd, rOr, rIf, rAndV, rOrV, rNotV, rNil, rCons, rTup, rLst, rNone, rSome, rSl, rCall, rCallK, rBlt, rLRev, rMeth, rMeth0, rYes, wSeq, wEnum, wRev, wRng1, wRng2, addD_int, addD_tup, addD_str, addD_ref, subD_int, mulD_int, mulD_ref, mulD_tup, fdivD_int, modD_int, powD_int, cmpD_int, isD_non, isnD_non, iaddD_int, isNon_non, isNon_int, isNon_str, isNon_tup, isNon_fr, isNon_bl, eqD_int, neD_int, absD_int, intD_int, intD_bl, lenD_tup, lenD_ref, lenD_pl, listD_pl, tupleD_pl, seqW_pl, enumW_pl, revW_pl, slD_pl, isNon_pl, addD_pl, listD_tup, listD_ref, tupleD_tup, tupleD_ref, max2D_int, min2D_int, truD_int, truD_bl, truD_tup, truD_non, seqW_tup, seqW_ref, enumW_tup, enumW_ref, revW_tup, revW_ref, rngW1_int, rngW2_int, slD_tup, slD_ref, slD_frl, popD_ref, appendD_ref, extendD_ref, setD_ref, bindG_nm, bindG_tup, bindGs_nil, bindGs_cons, ixD_ref, startD, List.map_cons, List.map_nil, List.length_cons, List.length_nil, List.cons_append, List.nil_append, List.getElem?_cons_zero, List.getElem?_cons_succ, List.set_cons_zero, List.set_cons_succ, Option.some.injEq, exists_eq_left', exists_eq_left, Option.bind_some, Nat.reduceAdd, Nat.reduceSub, List.replicate_succ, List.replicate_zero, Dt.bl.injEq, Dt.int.injEq, decide_eq_true_eq, decide_eq_false_iff_not, Bool.false_eq_true, Bool.true_eq_false, if_true, if_false, Bool.not_eq_true', Bool.not_true, Bool.not_false, bne_iff_ne, ne_eq, ixD_fr0, ixD_fr1, ixD_pair0, ixD_pair1, Dt.ref.injEq, List.cons.injEq, and_true, true_and, reduceIte, exists_eq, Nat.zero_add, Dt.tup.injEq, and_self, and_assoc, exists_and_left, fr_inj, pl_inj, ite_true, ite_false]
  have s0 : Sm D0 M0 := ⟨by decide, by decide +kernel, by decide +kernel⟩
  have sA : Sm D0 (M0 + M0) := ⟨by decide, by decide +kernel, by decide +kernel⟩
  have sM : Sm (D0 * D0) (7 * (M0 * M0)) := ⟨by decide, by decide +kernel, by decide +kernel⟩
  have sC : Sm (D0 * D0) (M0 * M0) := ⟨by decide, by decide +kernel, by decide +kernel⟩
  have s1 : Sm D0 (7 * M0) := ⟨by decide, by decide +kernel, by decide +kernel⟩
  have a_pq := hp.addPre hq sA (by decide)
  have b_pq := hp.add hq
  have b_m := hp.mul hq
  have m_pq : MulPre p q ∧ FitP (pMul p q) := ⟨hp.mulPre hq (by decide) (by decide) (by decide) (by decide) (by decide) (by decide) (by decide +kernel) (by decide +kernel), b_m.fit sM (by decide)⟩
  have bs := hp.slope
  have sl := hp.sl s0 (by decide)
  have sf : FitP (slope p) := bs.fit s1 (by decide)
  refine ⟨by decide, by decide, small_of hB fun g S1 wg B1 K1 => fraction_of B1 fun h S2 wh B2 K2 => ⟨by decide, fun c hc => pick_new B2 hc (by simp) (by simp) fun S3 d hd B3 K3 => ?_⟩⟩
  obtain ⟨f, rfl, wf⟩ : ∃ f, d = fr f ∧ W D0 M0 f := by
    simp only [List.mem_cons, List.mem_nil_iff, or_false] at hd
    rcases hd with e | e | e | e
    · exact ⟨0, e, .zero⟩
    · exact ⟨1, e, by
        have := W.int (D := D0) (M := M0) (i := 1) (by decide)
        have e1 : ((1 : Int) : Rat) = 1 := by exact_mod_cast rfl
        rw [e1] at this; exact this⟩
    · exact ⟨g, e, wg.d0⟩
    · exact ⟨h, e, wh⟩
  refine small_of B3 fun t S4 wt B4 K4 => ⟨by decide, ?_⟩
  have K := ((K1.trans K2).trans K3).trans K4
  have b_f := BP.scale wf hp
  have by_f : ByPre f p := ⟨wf.sz s0.1 s0.2.1 s0.2.2, hp.sz s0, by have := hp.ln; omega⟩
  have at_p : AtPre p t := hp.atPre wt (by decide) (by decide) (by decide) (by decide) (by decide +kernel) (by decide +kernel) (by decide +kernel) (by decide +kernel)
  have at_q : AtPre q t := hq.atPre wt (by decide) (by decide) (by decide) (by decide) (by decide +kernel) (by decide +kernel) (by decide +kernel) (by decide +kernel)
  have at_m : AtPre (pMul p q) t := b_m.atPre wt (by decide) (by decide) (by decide) (by decide) (by decide +kernel) (by decide +kernel) (by decide +kernel) (by decide +kernel)
  have at_a : AtPre (pAdd p q) t := b_pq.atPre wt (by decide) (by decide) (by decide) (by decide) (by decide +kernel) (by decide +kernel) (by decide +kernel) (by decide +kernel)
  rw [seq_step]; simp only [rsFor, rLc, wipeD, rsNext, rsDrop, rsRet, rsRetN, rsIf, rsAsg, rsPar, rsPar3, rsAug, rsSet, rsBreak, rsCont, rVar, rC, rBin, rTru, rTest, rChain, rNeg, rNot, rAnd, rOr, rIf, rAndV, rOrV, rNotV, rNil, rCons, rTup, rLst, rNone, rSome, rSl, rCall, rCallK, rBlt, rLRev, rMeth, rMeth0, rYes, wSeq, wEnum, wRev, wRng1, wRng2, addD_int, addD_tup, addD_str, addD_ref, subD_int, mulD_int, mulD_ref, mulD_tup, fdivD_int, modD_int, powD_int, cmpD_int, isD_non, isnD_non, iaddD_int, isNon_non, isNon_int, isNon_str, isNon_tup, isNon_fr, isNon_bl, eqD_int, neD_int, absD_int, intD_int, intD_bl, lenD_tup, lenD_ref, lenD_pl, listD_pl, tupleD_pl, seqW_pl, enumW_pl, revW_pl, slD_pl, isNon_pl, addD_pl, listD_tup, listD_ref, tupleD_tup, tupleD_ref, max2D_int, min2D_int, truD_int, truD_bl, truD_tup, truD_non, seqW_tup, seqW_ref, enumW_tup, enumW_ref, revW_tup, revW_ref, rngW1_int, rngW2_int, slD_tup, slD_ref, slD_frl, popD_ref, appendD_ref, extendD_ref, setD_ref, bindG_nm, bindG_tup, bindGs_nil, bindGs_cons, ixD_ref, startD, List.map_cons, List.map_nil, List.length_cons, List.length_nil, List.cons_append, List.nil_append, List.getElem?_cons_zero, List.getElem?_cons_succ, List.set_cons_zero, List.set_cons_succ, Option.some.injEq, exists_eq_left', exists_eq_left, Option.bind_some, Nat.reduceAdd, Nat.reduceSub, List.replicate_succ, List.replicate_zero, Dt.bl.injEq, Dt.int.injEq, decide_eq_true_eq, decide_eq_false_iff_not, Bool.false_eq_true, Bool.true_eq_false, if_true, if_false, Bool.not_eq_true', Bool.not_true, Bool.not_false, bne_iff_ne, ne_eq, ixD_fr0, ixD_fr1, ixD_pair0, ixD_pair1, Dt.ref.injEq, List.cons.injEq, and_true, true_and, reduceIte, exists_eq, Nat.zero_add, Dt.tup.injEq, and_self, and_assoc, exists_and_left, fr_inj, pl_inj, ite_true, ite_false]
  refine lsum_of a_pq (by have := hp.ln; omega) (by have := hq.ln; omega) (lmul_of m_pq.1 ?_)
  have tail : ∀ (S6 : Sto) (T : Addr), S6 T = some (.lst [pl (pAdd p q), pl (pMul p q), pl (pScale f p), fr (ev p t), pl (slope p), fr (ev (pMul p q) t)]) → BagAt S6 a b → Keep a b S S6 →
      u__two (endsD Q R) [some (.ref a), some (pl p), some (pl q), some (.bl n), none, none, some (fr f), some (fr t), some (pl (pAdd p q)), some (pl (pMul p q)), some (.ref T), none] S6 := by
    intro S6 T hT B6 K6
    unfold u__two
    rw [seq_step]; simp only [rsFor, rLc, wipeD, rsNext, rsDrop, rsRet, rsRetN, rsIf, rsAsg, rsPar, rsPar3, rsAug, rsSet, rsBreak, rsCont, rVar, rC, rBin, rTru, rTest, rChain, rNeg, rNot, rAnd, rOr, rIf, rAndV, rOrV, rNotV, rNil, rCons, rTup, rLst, rNone, rSome, rSl, rCall, rCallK, rBlt, rLRev, rMeth, rMeth0, rYes, wSeq, wEnum, wRev, wRng1, wRng2, addD_int, addD_tup, addD_str, addD_ref, subD_int, mulD_int, mulD_ref, mulD_tup, fdivD_int, modD_int, powD_int, cmpD_int, isD_non, isnD_non, iaddD_int, isNon_non, isNon_int, isNon_str, isNon_tup, isNon_fr, isNon_bl, eqD_int, neD_int, absD_int, intD_int, intD_bl, lenD_tup, lenD_ref, lenD_pl, listD_pl, tupleD_pl, seqW_pl, enumW_pl, revW_pl, slD_pl, isNon_pl, addD_pl, listD_tup, listD_ref, tupleD_tup, tupleD_ref, max2D_int, min2D_int, truD_int, truD_bl, truD_tup, truD_non, seqW_tup, seqW_ref, enumW_tup, enumW_ref, revW_tup, revW_ref, rngW1_int, rngW2_int, slD_tup, slD_ref, slD_frl, popD_ref, appendD_ref, extendD_ref, setD_ref, bindG_nm, bindG_tup, bindGs_nil, bindGs_cons, ixD_ref, startD, List.map_cons, List.map_nil, List.length_cons, List.length_nil, List.cons_append, List.nil_append, List.getElem?_cons_zero, List.getElem?_cons_succ, List.set_cons_zero, List.set_cons_succ, Option.some.injEq, exists_eq_left', exists_eq_left, Option.bind_some, Nat.reduceAdd, Nat.reduceSub, List.replicate_succ, List.replicate_zero, Dt.bl.injEq, Dt.int.injEq, decide_eq_true_eq, decide_eq_false_iff_not, Bool.false_eq_true, Bool.true_eq_false, if_true, if_false, Bool.not_eq_true', Bool.not_true, Bool.not_false, bne_iff_ne, ne_eq, ixD_fr0, ixD_fr1, ixD_pair0, ixD_pair1, Dt.ref.injEq, List.cons.injEq, and_true, true_and, reduceIte, exists_eq, Nat.zero_add, Dt.tup.injEq, and_self, and_assoc, exists_and_left, fr_inj, pl_inj, ite_true, ite_false]
    refine ⟨by decide, fun V hV => ⟨trivial, _, bindG_nm, ?_⟩⟩
    try simp only [rsFor, rLc, wipeD, rsNext, rsDrop, rsRet, rsRetN, rsIf, rsAsg, rsPar, rsPar3, rsAug, rsSet, rsBreak, rsCont, rVar, rC, rBin, rTru, rTest, rChain, rNeg, rNot, rAnd, rOr, rIf, rAndV, rOrV, rNotV, rNil, rCons, rTup, rLst, rNone, rSome, rSl, rCall, rCallK, rBlt, rLRev, rMeth, rMeth0, rYes, wSeq, wEnum, wRev, wRng1, wRng2, addD_int, addD_tup, addD_str, addD_ref, subD_int, mulD_int, mulD_ref, mulD_tup, fdivD_int, modD_int, powD_int, cmpD_int, isD_non, isnD_non, iaddD_int, isNon_non, isNon_int, isNon_str, isNon_tup, isNon_fr, isNon_bl, eqD_int, neD_int, absD_int, intD_int, intD_bl, lenD_tup, lenD_ref, lenD_pl, listD_pl, tupleD_pl, seqW_pl, enumW_pl, revW_pl, slD_pl, isNon_pl, addD_pl, listD_tup, listD_ref, tupleD_tup, tupleD_ref, max2D_int, min2D_int, truD_int, truD_bl, truD_tup, truD_non, seqW_tup, seqW_ref, enumW_tup, enumW_ref, revW_tup, revW_ref, rngW1_int, rngW2_int, slD_tup, slD_ref, slD_frl, popD_ref, appendD_ref, extendD_ref, setD_ref, bindG_nm, bindG_tup, bindGs_nil, bindGs_cons, ixD_ref, startD, List.map_cons, List.map_nil, List.length_cons, List.length_nil, List.cons_append, List.nil_append, List.getElem?_cons_zero, List.getElem?_cons_succ, List.set_cons_zero, List.set_cons_succ, Option.some.injEq, exists_eq_left', exists_eq_left, Option.bind_some, Nat.reduceAdd, Nat.reduceSub, List.replicate_succ, List.replicate_zero, Dt.bl.injEq, Dt.int.injEq, decide_eq_true_eq, decide_eq_false_iff_not, Bool.false_eq_true, Bool.true_eq_false, if_true, if_false, Bool.not_eq_true', Bool.not_true, Bool.not_false, bne_iff_ne, ne_eq, ixD_fr0, ixD_fr1, ixD_pair0, ixD_pair1, Dt.ref.injEq, List.cons.injEq, and_true, true_and, reduceIte, exists_eq, Nat.zero_add, Dt.tup.injEq, and_self, and_assoc, exists_and_left, fr_inj, pl_inj, ite_true, ite_false]
    refine lat_of at_p ⟨[], put_same, by decide, trivial, _, bindG_nm, ?_⟩
    try simp only [rsFor, rLc, wipeD, rsNext, rsDrop, rsRet, rsRetN, rsIf, rsAsg, rsPar, rsPar3, rsAug, rsSet, rsBreak, rsCont, rVar, rC, rBin, rTru, rTest, rChain, rNeg, rNot, rAnd, rOr, rIf, rAndV, rOrV, rNotV, rNil, rCons, rTup, rLst, rNone, rSome, rSl, rCall, rCallK, rBlt, rLRev, rMeth, rMeth0, rYes, wSeq, wEnum, wRev, wRng1, wRng2, addD_int, addD_tup, addD_str, addD_ref, subD_int, mulD_int, mulD_ref, mulD_tup, fdivD_int, modD_int, powD_int, cmpD_int, isD_non, isnD_non, iaddD_int, isNon_non, isNon_int, isNon_str, isNon_tup, isNon_fr, isNon_bl, eqD_int, neD_int, absD_int, intD_int, intD_bl, lenD_tup, lenD_ref, lenD_pl, listD_pl, tupleD_pl, seqW_pl, enumW_pl, revW_pl, slD_pl, isNon_pl, addD_pl, listD_tup, listD_ref, tupleD_tup, tupleD_ref, max2D_int, min2D_int, truD_int, truD_bl, truD_tup, truD_non, seqW_tup, seqW_ref, enumW_tup, enumW_ref, revW_tup, revW_ref, rngW1_int, rngW2_int, slD_tup, slD_ref, slD_frl, popD_ref, appendD_ref, extendD_ref, setD_ref, bindG_nm, bindG_tup, bindGs_nil, bindGs_cons, ixD_ref, startD, List.map_cons, List.map_nil, List.length_cons, List.length_nil, List.cons_append, List.nil_append, List.getElem?_cons_zero, List.getElem?_cons_succ, List.set_cons_zero, List.set_cons_succ, Option.some.injEq, exists_eq_left', exists_eq_left, Option.bind_some, Nat.reduceAdd, Nat.reduceSub, List.replicate_succ, List.replicate_zero, Dt.bl.injEq, Dt.int.injEq, decide_eq_true_eq, decide_eq_false_iff_not, Bool.false_eq_true, Bool.true_eq_false, if_true, if_false, Bool.not_eq_true', Bool.not_true, Bool.not_false, bne_iff_ne, ne_eq, ixD_fr0, ixD_fr1, ixD_pair0, ixD_pair1, Dt.ref.injEq, List.cons.injEq, and_true, true_and, reduceIte, exists_eq, Nat.zero_add, Dt.tup.injEq, and_self, and_assoc, exists_and_left, fr_inj, pl_inj, ite_true, ite_false]
    refine lat_of at_q ⟨_, put_same, by show 0 + 1 < sizeLine; decide, trivial, ?_⟩
    rw [put_put, put_put]
    simp only [List.cons_append, List.nil_append]
    rw [seq_step]; simp only [rsFor, rLc, wipeD, rsNext, rsDrop, rsRet, rsRetN, rsIf, rsAsg, rsPar, rsPar3, rsAug, rsSet, rsBreak, rsCont, rVar, rC, rBin, rTru, rTest, rChain, rNeg, rNot, rAnd, rOr, rIf, rAndV, rOrV, rNotV, rNil, rCons, rTup, rLst, rNone, rSome, rSl, rCall, rCallK, rBlt, rLRev, rMeth, rMeth0, rYes, wSeq, wEnum, wRev, wRng1, wRng2, addD_int, addD_tup, addD_str, addD_ref, subD_int, mulD_int, mulD_ref, mulD_tup, fdivD_int, modD_int, powD_int, cmpD_int, isD_non, isnD_non, iaddD_int, isNon_non, isNon_int, isNon_str, isNon_tup, isNon_fr, isNon_bl, eqD_int, neD_int, absD_int, intD_int, intD_bl, lenD_tup, lenD_ref, lenD_pl, listD_pl, tupleD_pl, seqW_pl, enumW_pl, revW_pl, slD_pl, isNon_pl, addD_pl, listD_tup, listD_ref, tupleD_tup, tupleD_ref, max2D_int, min2D_int, truD_int, truD_bl, truD_tup, truD_non, seqW_tup, seqW_ref, enumW_tup, enumW_ref, revW_tup, revW_ref, rngW1_int, rngW2_int, slD_tup, slD_ref, slD_frl, popD_ref, appendD_ref, extendD_ref, setD_ref, bindG_nm, bindG_tup, bindGs_nil, bindGs_cons, ixD_ref, startD, List.map_cons, List.map_nil, List.length_cons, List.length_nil, List.cons_append, List.nil_append, List.getElem?_cons_zero, List.getElem?_cons_succ, List.set_cons_zero, List.set_cons_succ, Option.some.injEq, exists_eq_left', exists_eq_left, Option.bind_some, Nat.reduceAdd, Nat.reduceSub, List.replicate_succ, List.replicate_zero, Dt.bl.injEq, Dt.int.injEq, decide_eq_true_eq, decide_eq_false_iff_not, Bool.false_eq_true, Bool.true_eq_false, if_true, if_false, Bool.not_eq_true', Bool.not_true, Bool.not_false, bne_iff_ne, ne_eq, ixD_fr0, ixD_fr1, ixD_pair0, ixD_pair1, Dt.ref.injEq, List.cons.injEq, and_true, true_and, reduceIte, exists_eq, Nat.zero_add, Dt.tup.injEq, and_self, and_assoc, exists_and_left, fr_inj, pl_inj, ite_true, ite_false]
    obtain ⟨v1, v2⟩ := B6.nep hV
    have hVT : V ≠ T := fun e => by rw [e, hT] at hV; cases hV
    have B7 := B6.new (o := .lst [fr (ev p t), fr (ev q t)]) hV
    have K7 := K6.trans (Keep.new (o := .lst [fr (ev p t), fr (ev q t)]) hV)
    have hT7 : put S6 V (.lst [fr (ev p t), fr (ev q t)]) T = some (.lst [pl (pAdd p q), pl (pMul p q), pl (pScale f p), fr (ev p t), pl (slope p), fr (ev (pMul p q) t)]) := by rw [put_ne hVT.symm]; exact hT
    have hV7 : lstOf (put S6 V (.lst [fr (ev p t), fr (ev q t)])) V = some [fr (ev p t), fr (ev q t)] := lst_same
    generalize put S6 V (.lst [fr (ev p t), fr (ev q t)]) = S7 at B7 K7 hT7 hV7 ⊢
    refine lscale_of by_f ⟨_, hV7, _, at0, lslope_of sl ⟨_, hV7, _, at0, _, hV7, _, at1, ltimes_of at_p.sz at_q.sz ⟨by decide, fun U hU => ?_⟩⟩⟩
    have hUV : lstOf (put S7 U (.lst [pl (pAdd p q), pl (pMul p q), pl (pScale f p), fr (ev p t), pl (slope p), fr (ev p t * ev q t)])) V = some [fr (ev p t), fr (ev q t)] := lstOf_sub (Sub.put hU) hV7
    have hUT := lst_of (Sub.put (o := .lst [pl (pAdd p q), pl (pMul p q), pl (pScale f p), fr (ev p t), pl (slope p), fr (ev p t * ev q t)]) hU _ _ hT7)
    have hUU : lstOf (put S7 U (.lst [pl (pAdd p q), pl (pMul p q), pl (pScale f p), fr (ev p t), pl (slope p), fr (ev p t * ev q t)])) U = some [pl (pAdd p q), pl (pMul p q), pl (pScale f p), fr (ev p t), pl (slope p), fr (ev p t * ev q t)] := lst_same
    have B8 := B7.new (o := .lst [pl (pAdd p q), pl (pMul p q), pl (pScale f p), fr (ev p t), pl (slope p), fr (ev p t * ev q t)]) hU
    have K8 := K7.trans (Keep.new (o := .lst [pl (pAdd p q), pl (pMul p q), pl (pScale f p), fr (ev p t), pl (slope p), fr (ev p t * ev q t)]) hU)
    generalize put S7 U (.lst [pl (pAdd p q), pl (pMul p q), pl (pScale f p), fr (ev p t), pl (slope p), fr (ev p t * ev q t)]) = S8 at hUV hUT hUU B8 K8 ⊢
    have em : ev p t * ev q t = ev (pMul p q) t := ev_pMul.symm
    rw [em] at hUU
    obtain ⟨d, hd⟩ := six_ni (p1 := pAdd p q) (p2 := pMul p q) (p3 := pScale f p) (p5 := slope p) (r4 := ev p t) (r6 := ev (pMul p q) t) (b_pq.sz sA) (b_m.sz sM) (b_f.sz sC) (bs.sz s1) at_p.sz at_m.sz
      (by have := b_pq.ln; omega) (by have := b_m.ln; omega) (by have := b_f.ln; omega) (by have := bs.ln; omega)
    rw [seq_step]; simp only [rsFor, rLc, wipeD, rsNext, rsDrop, rsRet, rsRetN, rsIf, rsAsg, rsPar, rsPar3, rsAug, rsSet, rsBreak, rsCont, rVar, rC, rBin, rTru, rTest, rChain, rNeg, rNot, rAnd, rOr, rIf, rAndV, rOrV, rNotV, rNil, rCons, rTup, rLst, rNone, rSome, rSl, rCall, rCallK, rBlt, rLRev, rMeth, rMeth0, rYes, wSeq, wEnum, wRev, wRng1, wRng2, addD_int, addD_tup, addD_str, addD_ref, subD_int, mulD_int, mulD_ref, mulD_tup, fdivD_int, modD_int, powD_int, cmpD_int, isD_non, isnD_non, iaddD_int, isNon_non, isNon_int, isNon_str, isNon_tup, isNon_fr, isNon_bl, eqD_int, neD_int, absD_int, intD_int, intD_bl, lenD_tup, lenD_ref, lenD_pl, listD_pl, tupleD_pl, seqW_pl, enumW_pl, revW_pl, slD_pl, isNon_pl, addD_pl, listD_tup, listD_ref, tupleD_tup, tupleD_ref, max2D_int, min2D_int, truD_int, truD_bl, truD_tup, truD_non, seqW_tup, seqW_ref, enumW_tup, enumW_ref, revW_tup, revW_ref, rngW1_int, rngW2_int, slD_tup, slD_ref, slD_frl, popD_ref, appendD_ref, extendD_ref, setD_ref, bindG_nm, bindG_tup, bindGs_nil, bindGs_cons, ixD_ref, startD, List.map_cons, List.map_nil, List.length_cons, List.length_nil, List.cons_append, List.nil_append, List.getElem?_cons_zero, List.getElem?_cons_succ, List.set_cons_zero, List.set_cons_succ, Option.some.injEq, exists_eq_left', exists_eq_left, Option.bind_some, Nat.reduceAdd, Nat.reduceSub, List.replicate_succ, List.replicate_zero, Dt.bl.injEq, Dt.int.injEq, decide_eq_true_eq, decide_eq_false_iff_not, Bool.false_eq_true, Bool.true_eq_false, if_true, if_false, Bool.not_eq_true', Bool.not_true, Bool.not_false, bne_iff_ne, ne_eq, ixD_fr0, ixD_fr1, ixD_pair0, ixD_pair1, Dt.ref.injEq, List.cons.injEq, and_true, true_and, reduceIte, exists_eq, Nat.zero_add, Dt.tup.injEq, and_self, and_assoc, exists_and_left, fr_inj, pl_inj, ite_true, ite_false]
    refine is_of (hd _ _ hUT) (hd _ _ hUU) ?_
    try simp only [rsFor, rLc, wipeD, rsNext, rsDrop, rsRet, rsRetN, rsIf, rsAsg, rsPar, rsPar3, rsAug, rsSet, rsBreak, rsCont, rVar, rC, rBin, rTru, rTest, rChain, rNeg, rNot, rAnd, rOr, rIf, rAndV, rOrV, rNotV, rNil, rCons, rTup, rLst, rNone, rSome, rSl, rCall, rCallK, rBlt, rLRev, rMeth, rMeth0, rYes, wSeq, wEnum, wRev, wRng1, wRng2, addD_int, addD_tup, addD_str, addD_ref, subD_int, mulD_int, mulD_ref, mulD_tup, fdivD_int, modD_int, powD_int, cmpD_int, isD_non, isnD_non, iaddD_int, isNon_non, isNon_int, isNon_str, isNon_tup, isNon_fr, isNon_bl, eqD_int, neD_int, absD_int, intD_int, intD_bl, lenD_tup, lenD_ref, lenD_pl, listD_pl, tupleD_pl, seqW_pl, enumW_pl, revW_pl, slD_pl, isNon_pl, addD_pl, listD_tup, listD_ref, tupleD_tup, tupleD_ref, max2D_int, min2D_int, truD_int, truD_bl, truD_tup, truD_non, seqW_tup, seqW_ref, enumW_tup, enumW_ref, revW_tup, revW_ref, rngW1_int, rngW2_int, slD_tup, slD_ref, slD_frl, popD_ref, appendD_ref, extendD_ref, setD_ref, bindG_nm, bindG_tup, bindGs_nil, bindGs_cons, ixD_ref, startD, List.map_cons, List.map_nil, List.length_cons, List.length_nil, List.cons_append, List.nil_append, List.getElem?_cons_zero, List.getElem?_cons_succ, List.set_cons_zero, List.set_cons_succ, Option.some.injEq, exists_eq_left', exists_eq_left, Option.bind_some, Nat.reduceAdd, Nat.reduceSub, List.replicate_succ, List.replicate_zero, Dt.bl.injEq, Dt.int.injEq, decide_eq_true_eq, decide_eq_false_iff_not, Bool.false_eq_true, Bool.true_eq_false, if_true, if_false, Bool.not_eq_true', Bool.not_true, Bool.not_false, bne_iff_ne, ne_eq, ixD_fr0, ixD_fr1, ixD_pair0, ixD_pair1, Dt.ref.injEq, List.cons.injEq, and_true, true_and, reduceIte, exists_eq, Nat.zero_add, Dt.tup.injEq, and_self, and_assoc, exists_and_left, fr_inj, pl_inj, ite_true, ite_false]
    refine at_of at_a ⟨_, hUV, _, at0, _, hUV, _, at1, lplus_of at_p.sz at_q.sz ?_⟩
    rw [← ev_pAdd]
    exact is_of ((Ni.fr at_a.sz).mono (by omega) (by omega)) ((Ni.fr at_a.sz).mono (by omega) (by omega)) (rt_of (hQ _ B8 K8))
  rw [seq_step]; simp only [rsFor, rLc, wipeD, rsNext, rsDrop, rsRet, rsRetN, rsIf, rsAsg, rsPar, rsPar3, rsAug, rsSet, rsBreak, rsCont, rVar, rC, rBin, rTru, rTest, rChain, rNeg, rNot, rAnd, rOr, rIf, rAndV, rOrV, rNotV, rNil, rCons, rTup, rLst, rNone, rSome, rSl, rCall, rCallK, rBlt, rLRev, rMeth, rMeth0, rYes, wSeq, wEnum, wRev, wRng1, wRng2, addD_int, addD_tup, addD_str, addD_ref, subD_int, mulD_int, mulD_ref, mulD_tup, fdivD_int, modD_int, powD_int, cmpD_int, isD_non, isnD_non, iaddD_int, isNon_non, isNon_int, isNon_str, isNon_tup, isNon_fr, isNon_bl, eqD_int, neD_int, absD_int, intD_int, intD_bl, lenD_tup, lenD_ref, lenD_pl, listD_pl, tupleD_pl, seqW_pl, enumW_pl, revW_pl, slD_pl, isNon_pl, addD_pl, listD_tup, listD_ref, tupleD_tup, tupleD_ref, max2D_int, min2D_int, truD_int, truD_bl, truD_tup, truD_non, seqW_tup, seqW_ref, enumW_tup, enumW_ref, revW_tup, revW_ref, rngW1_int, rngW2_int, slD_tup, slD_ref, slD_frl, popD_ref, appendD_ref, extendD_ref, setD_ref, bindG_nm, bindG_tup, bindGs_nil, bindGs_cons, ixD_ref, startD, List.map_cons, List.map_nil, List.length_cons, List.length_nil, List.cons_append, List.nil_append, List.getElem?_cons_zero, List.getElem?_cons_succ, List.set_cons_zero, List.set_cons_succ, Option.some.injEq, exists_eq_left', exists_eq_left, Option.bind_some, Nat.reduceAdd, Nat.reduceSub, List.replicate_succ, List.replicate_zero, Dt.bl.injEq, Dt.int.injEq, decide_eq_true_eq, decide_eq_false_iff_not, Bool.false_eq_true, Bool.true_eq_false, if_true, if_false, Bool.not_eq_true', Bool.not_true, Bool.not_false, bne_iff_ne, ne_eq, ixD_fr0, ixD_fr1, ixD_pair0, ixD_pair1, Dt.ref.injEq, List.cons.injEq, and_true, true_and, reduceIte, exists_eq, Nat.zero_add, Dt.tup.injEq, and_self, and_assoc, exists_and_left, fr_inj, pl_inj, ite_true, ite_false]
  split
  · rw [seq_step]; simp only [rsFor, rLc, wipeD, rsNext, rsDrop, rsRet, rsRetN, rsIf, rsAsg, rsPar, rsPar3, rsAug, rsSet, rsBreak, rsCont, rVar, rC, rBin, rTru, rTest, rChain, rNeg, rNot, rAnd, rOr, rIf, rAndV, rOrV, rNotV, rNil, rCons, rTup, rLst, rNone, rSome, rSl, rCall, rCallK, rBlt, rLRev, rMeth, rMeth0, rYes, wSeq, wEnum, wRev, wRng1, wRng2, addD_int, addD_tup, addD_str, addD_ref, subD_int, mulD_int, mulD_ref, mulD_tup, fdivD_int, modD_int, powD_int, cmpD_int, isD_non, isnD_non, iaddD_int, isNon_non, isNon_int, isNon_str, isNon_tup, isNon_fr, isNon_bl, eqD_int, neD_int, absD_int, intD_int, intD_bl, lenD_tup, lenD_ref, lenD_pl, listD_pl, tupleD_pl, seqW_pl, enumW_pl, revW_pl, slD_pl, isNon_pl, addD_pl, listD_tup, listD_ref, tupleD_tup, tupleD_ref, max2D_int, min2D_int, truD_int, truD_bl, truD_tup, truD_non, seqW_tup, seqW_ref, enumW_tup, enumW_ref, revW_tup, revW_ref, rngW1_int, rngW2_int, slD_tup, slD_ref, slD_frl, popD_ref, appendD_ref, extendD_ref, setD_ref, bindG_nm, bindG_tup, bindGs_nil, bindGs_cons, ixD_ref, startD, List.map_cons, List.map_nil, List.length_cons, List.length_nil, List.cons_append, List.nil_append, List.getElem?_cons_zero, List.getElem?_cons_succ, List.set_cons_zero, List.set_cons_succ, Option.some.injEq, exists_eq_left', exists_eq_left, Option.bind_some, Nat.reduceAdd, Nat.reduceSub, List.replicate_succ, List.replicate_zero, Dt.bl.injEq, Dt.int.injEq, decide_eq_true_eq, decide_eq_false_iff_not, Bool.false_eq_true, Bool.true_eq_false, if_true, if_false, Bool.not_eq_true', Bool.not_true, Bool.not_false, bne_iff_ne, ne_eq, ixD_fr0, ixD_fr1, ixD_pair0, ixD_pair1, Dt.ref.injEq, List.cons.injEq, and_true, true_and, reduceIte, exists_eq, Nat.zero_add, Dt.tup.injEq, and_self, and_assoc, exists_and_left, fr_inj, pl_inj, ite_true, ite_false]
    refine sum_of a_pq (mul_of m_pq (scale_of by_f hp.tr (b_f.fit sC (by decide)) ⟨by decide, fun T hT => ⟨⟨_, put_same⟩, at_of at_p (slope_of' sl sf (at_of at_m ⟨by decide, fun E hE => ?_⟩))⟩⟩))
    obtain ⟨e1, B5, K5⟩ := ext_build (ys := [fr (ev p t), pl (slope p), fr (ev (pMul p q) t)]) (zs := [pl (pAdd p q), pl (pMul p q), pl (pScale f p), fr (ev p t), pl (slope p), fr (ev (pMul p q) t)]) B4 K hT hE
    exact ⟨_, e1, _, put_same, by show 3 + 3 ≤ sizeLine; decide, tail _ _ put_same B5 K5⟩
  · rw [seq_step]; simp only [rsFor, rLc, wipeD, rsNext, rsDrop, rsRet, rsRetN, rsIf, rsAsg, rsPar, rsPar3, rsAug, rsSet, rsBreak, rsCont, rVar, rC, rBin, rTru, rTest, rChain, rNeg, rNot, rAnd, rOr, rIf, rAndV, rOrV, rNotV, rNil, rCons, rTup, rLst, rNone, rSome, rSl, rCall, rCallK, rBlt, rLRev, rMeth, rMeth0, rYes, wSeq, wEnum, wRev, wRng1, wRng2, addD_int, addD_tup, addD_str, addD_ref, subD_int, mulD_int, mulD_ref, mulD_tup, fdivD_int, modD_int, powD_int, cmpD_int, isD_non, isnD_non, iaddD_int, isNon_non, isNon_int, isNon_str, isNon_tup, isNon_fr, isNon_bl, eqD_int, neD_int, absD_int, intD_int, intD_bl, lenD_tup, lenD_ref, lenD_pl, listD_pl, tupleD_pl, seqW_pl, enumW_pl, revW_pl, slD_pl, isNon_pl, addD_pl, listD_tup, listD_ref, tupleD_tup, tupleD_ref, max2D_int, min2D_int, truD_int, truD_bl, truD_tup, truD_non, seqW_tup, seqW_ref, enumW_tup, enumW_ref, revW_tup, revW_ref, rngW1_int, rngW2_int, slD_tup, slD_ref, slD_frl, popD_ref, appendD_ref, extendD_ref, setD_ref, bindG_nm, bindG_tup, bindGs_nil, bindGs_cons, ixD_ref, startD, List.map_cons, List.map_nil, List.length_cons, List.length_nil, List.cons_append, List.nil_append, List.getElem?_cons_zero, List.getElem?_cons_succ, List.set_cons_zero, List.set_cons_succ, Option.some.injEq, exists_eq_left', exists_eq_left, Option.bind_some, Nat.reduceAdd, Nat.reduceSub, List.replicate_succ, List.replicate_zero, Dt.bl.injEq, Dt.int.injEq, decide_eq_true_eq, decide_eq_false_iff_not, Bool.false_eq_true, Bool.true_eq_false, if_true, if_false, Bool.not_eq_true', Bool.not_true, Bool.not_false, bne_iff_ne, ne_eq, ixD_fr0, ixD_fr1, ixD_pair0, ixD_pair1, Dt.ref.injEq, List.cons.injEq, and_true, true_and, reduceIte, exists_eq, Nat.zero_add, Dt.tup.injEq, and_self, and_assoc, exists_and_left, fr_inj, pl_inj, ite_true, ite_false]
    refine sum_of a_pq (mul_of m_pq (scale_of by_f hp.tr (b_f.fit sC (by decide)) (at_of at_p ⟨by decide, fun T hT => ⟨⟨_, put_same⟩, slope_of' sl sf (at_of at_m ⟨by decide, fun E hE => ?_⟩)⟩⟩)))
    obtain ⟨e1, B5, K5⟩ := ext_build (ys := [pl (slope p), fr (ev (pMul p q) t)]) (zs := [pl (pAdd p q), pl (pMul p q), pl (pScale f p), fr (ev p t), pl (slope p), fr (ev (pMul p q) t)]) B4 K hT hE
    exact ⟨_, e1, _, put_same, by show 4 + 2 ≤ sizeLine; decide, tail _ _ put_same B5 K5⟩
theorem len__law_are_two_right : ∀ ds S Q R, sp__law_are_two_right ds S Q R → ds.length = 4 := by rintro ds S Q R ⟨a, b, p, q, n, rfl, _⟩; rfl
end Ev

namespace Ev
open PySem PySem.Spec PyProof.Rows L2
def sp__law_are_judged : SpD := fun ds S Q _ => ∃ (a b : Addr) (p : List Rat) (n : Bool), ds = [.ref a, pl p, .bl n] ∧ (BagAt S a b ∧ BP D0 M0 7 p) ∧ ∀ S', BagAt S' a b → Keep a b S S' → Q (.bl true) S'
def t__law_are_judged : RS := rsSeq (rsAsg (rCall sp__law_draw (rCons (rVar 0) (rCons (rBin addD (rBlt lenD (rCons (rVar 1) rNil)) (rC (Dt.int 1))) rNil))) (Tg.nm 3)) (rsSeq (rsAsg (rCall sp__law_pick (rCons (rVar 0) (rCons (rLst (rCons (rTup (rCons (rC (Dt.int 2)) (rCons (rC (Dt.int 4)) rNil))) (rCons (rTup (rCons (rC (Dt.int 0)) (rCons (rC (Dt.int 3)) rNil))) (rCons (rTup (rCons (rC (Dt.int 1)) (rCons (rC (Dt.int 0)) rNil))) (rCons (rTup (rCons (rNeg (rC (Dt.int 1))) (rCons (rNeg (rC (Dt.int 2))) rNil))) (rCons (rTup (rCons (rC (Dt.bl true)) (rCons (rC (Dt.int 2)) rNil))) (rCons (rLst (rCons (rC (Dt.int 1)) (rCons (rC (Dt.int 2)) rNil))) (rCons (rTup (rCons (rC (Dt.int 1)) rNil)) (rCons (rC Dt.non) (rCons (rC (Dt.int 3)) (rCons (rTup (rCons (rC (Dt.int 1)) (rCons (rC (Dt.int 2)) (rCons (rC (Dt.int 3)) rNil)))) (rCons (rC (Dt.str (Str.ofString "1"))) rNil)))))))))))) rNil))) (Tg.nm 4)) (rsSeq (rsAsg (rCall sp__law_pick (rCons (rVar 0) (rCons (rLst (rCons (rTup (rCons (rC (Dt.int 6)) (rCons (rC (Dt.int 3)) rNil))) (rCons (rTup (rCons (rC (Dt.int 5)) (rCons (rC (Dt.int 0)) rNil))) (rCons (rC Dt.non) (rCons (rTup (rCons (rC (Dt.int 0)) (rCons (rC (Dt.int 2)) rNil))) rNil))))) rNil))) (Tg.nm 5)) (rsSeq (rsAsg (rLst (rCons (rVar 1) (rCons (rBlt listD (rCons (rVar 1) rNil)) (rCons (rBin addD (rVar 1) (rTup (rCons (rTup (rCons (rC (Dt.int 0)) (rCons (rC (Dt.int 1)) rNil))) rNil))) (rCons (rBin addD (rBin addD (rSl (rVar 1) rNone (rSome (rVar 3))) (rTup (rCons (rVar 4) rNil))) (rSl (rVar 1) (rSome (rVar 3)) rNone)) (rCons (rBin addD (rVar 1) (rBin mulD (rTup (rCons (rTup (rCons (rC (Dt.int 1)) (rCons (rC (Dt.int 1)) rNil))) rNil)) (rC (Dt.int 8)))) rNil)))))) (Tg.nm 6)) (rsSeq (rsDrop (rMeth extendD (rVar 6) (rCons (rLst (rCons (rBin addD (rVar 1) (rTup (rCons (rVar 4) rNil))) (rCons (rBin addD (rVar 1) (rTup (rCons (rVar 5) (rCons (rVar 4) rNil)))) (rCons (rBin addD (rTup (rCons (rVar 4) rNil)) (rVar 1)) (rCons (rBin addD (rVar 1) (rTup (rCons (rVar 4) (rCons (rTup (rCons (rC (Dt.int 0)) (rCons (rC (Dt.int 1)) rNil))) rNil)))) (rCons (rC Dt.non) (rCons (rVar 4) (rCons (rTup (rCons (rVar 1) rNil)) rNil)))))))) rNil))) (rsSeq (rsDrop (rMeth appendD (rVar 6) (rCons (rBin mulD (rTup (rCons (rTup (rCons (rC (Dt.int 0)) (rCons (rC (Dt.int 1)) rNil))) rNil)) (rC (Dt.int 7))) rNil))) (rsSeq (rsDrop (rMeth appendD (rVar 6) (rCons (rBin addD (rBin addD (rVar 1) (rBin mulD (rTup (rCons (rTup (rCons (rC (Dt.int 0)) (rCons (rC (Dt.int 1)) rNil))) rNil)) (rBin subD (rC (Dt.int 7)) (rBlt lenD (rCons (rVar 1) rNil))))) (rTup (rCons (rTup (rCons (rC (Dt.int 1)) (rCons (rC (Dt.int 1)) rNil))) rNil))) rNil))) (rsSeq (rsFor (wSeq (rVar 6)) (Tg.nm 7) (rsSeq (rsAsg (rIf (rTru (rVar 2)) (rCallK sp_poly_error 0 [0] rNil (rCons (rVar 7) rNil)) (rCall sp_poly_error (rCons (rVar 7) rNil))) (Tg.nm 8)) (rsSeq (rsIf (rNot (rTru (rCall sp__law_is (rCons (rVar 8) (rCons (rCall sp__law_fault (rCons (rVar 7) rNil)) rNil))))) (rsRet (rC (Dt.bl false))) rsNext) (rsAsg (rNotV (rVar 2)) (Tg.nm 2))))) (rsRet (rC (Dt.bl true))))))))))
def PVL (S : Sto) (xs : List Dt) : Prop := ∀ x ∈ xs, PV S x
section
variable {S S' : Sto} {xs ys : List Dt} {x : Dt}
theorem PVL.nil : PVL S [] := fun x h => by cases h
theorem PVL.cons (h : PV S x) (r : PVL S xs) : PVL S (x :: xs) := fun y hy => by
  rcases List.mem_cons.mp hy with e | hy
  · rw [e]; exact h
  · exact r y hy
theorem PVL.app (h : PVL S xs) (r : PVL S ys) : PVL S (xs ++ ys) := fun y hy => (List.mem_append.mp hy).elim (h y) (r y)
theorem PVL.sub (h : PVL S xs) (s : Sub S S') : PVL S' xs := fun y hy => (h y hy).sub s
theorem PVL.rep (h : PVL S xs) {n : Nat} : PVL S (List.replicate n xs).flatten := fun y hy => by
  obtain ⟨l, hl, hy⟩ := List.mem_flatten.mp hy
  rw [List.eq_of_mem_replicate hl] at hy
  exact h y hy
theorem PVL.cut (h : PVL S xs) {lo hi : Option Int} : PVL S (cutD xs lo hi) := fun y hy => h y (by
  unfold cutD at hy
  exact List.mem_of_mem_drop (List.mem_of_mem_take hy))
theorem cut_len {lo hi : Option Int} : (cutD xs lo hi).length ≤ xs.length := by
  unfold cutD
  rw [List.length_take, List.length_drop]; omega
theorem PV.put {V : Addr} {zs : List Dt} (h : PV S x) : PV (put S V (.lst zs)) x := by
  induction h with
  | non => exact .non
  | bl b => exact .bl b
  | int i => exact .int i
  | str z => exact .str z
  | ref e =>
    rename_i c us
    by_cases hc : c = V
    · subst hc; exact .ref lst_same
    · exact .ref (by rw [lst_ne hc]; exact e)
  | tup _ ih => exact .tup ih
theorem PVL.put {V : Addr} {zs : List Dt} (h : PVL S xs) : PVL (Ev.put S V (.lst zs)) xs := fun y hy => (h y hy).put
theorem pv_fr {q : Rat} : PV S (fr q) := .tup (PVL.cons (.int _) (.cons (.int _) .nil))
theorem pvl_frs {p : List Rat} : PVL S (p.map fr) := fun y hy => by
  obtain ⟨q, _, rfl⟩ := List.mem_map.mp hy
  exact pv_fr
end
theorem perr_of {S : Sto} {Q : QD} {R : XD → Sto → Prop} {x : Dt} (h : PV S x) (k : Q (perr x) S) : sp_poly_error [x] S Q R := ⟨x, rfl, h, k⟩
theorem lfault_of {S : Sto} {Q : QD} {R : XD → Sto → Prop} {x : Dt} (h : PV S x) (k : Q (perr x) S) : sp__law_fault [x] S Q R := ⟨x, rfl, h, k⟩
def tb_judge : RS := rsSeq (rsAsg (rIf (rTru (rVar 2)) (rCallK sp_poly_error 0 [0] rNil (rCons (rVar 7) rNil)) (rCall sp_poly_error (rCons (rVar 7) rNil))) (Tg.nm 8)) (rsSeq (rsIf (rNot (rTru (rCall sp__law_is (rCons (rVar 8) (rCons (rCall sp__law_fault (rCons (rVar 7) rNil)) rNil))))) (rsRet (rC (Dt.bl false))) rsNext) (rsAsg (rNotV (rVar 2)) (Tg.nm 2)))
theorem loop_judge {D : EndsD} {G : Sto → Prop} {S : Sto} {x0 x1 x3 x4 x5 x6 : Option Dt} (hG : G S) (hD : ∀ n x7 x8, D.nx [x0, x1, some (.bl n), x3, x4, x5, x6, x7, x8] S) : ∀ (xs : List Dt) (n : Bool) (x7 x8 : Option Dt), PVL S xs → forGo (.nm 7) tb_judge D G xs [x0, x1, some (.bl n), x3, x4, x5, x6, x7, x8] S
  | [], n, x7, x8, _ => ⟨hG, hD n x7 x8⟩
  | x :: xs, n, x7, x8, h => by
    refine ⟨hG, _, bindG_nm, ?_⟩
    have hx := h x (List.mem_cons_self ..)
    obtain ⟨p, hp⟩ := perr_ni (S := S) (x := x)
    have hp' := hp.mono (n' := 60) (w' := 8000) (by omega) (by omega)
    have rest := loop_judge hG hD xs (!n) (some x) (some (perr x)) fun y hy => h y (List.mem_cons_of_mem _ hy)
    unfold tb_judge
    rw [seq_step]; simp only [rsFor, rLc, wipeD, rsNext, rsDrop, rsRet, rsRetN, rsIf, rsAsg, rsPar, rsPar3, rsAug, rsSet, rsBreak, rsCont, rVar, rC, rBin, rTru, rTest, rChain, rNeg, rNot, rAnd, rOr, rIf, rAndV, rOrV, rNotV, rNil, rCons, rTup, rLst, rNone, rSome, rSl, rCall, rCallK, rBlt, rLRev, rMeth, rMeth0, rYes, wSeq, wEnum, wRev, wRng1, wRng2, addD_int, addD_tup, addD_str, addD_ref, subD_int, mulD_int, mulD_ref, mulD_tup, fdivD_int, modD_int, powD_int, cmpD_int, isD_non, isnD_non, iaddD_int, isNon_non, isNon_int, isNon_str, isNon_tup, isNon_fr, isNon_bl, eqD_int, neD_int, absD_int, intD_int, intD_bl, lenD_tup, lenD_ref, lenD_pl, listD_pl, tupleD_pl, seqW_pl, enumW_pl, revW_pl, slD_pl, isNon_pl, addD_pl, listD_tup, listD_ref, tupleD_tup, tupleD_ref, max2D_int, min2D_int, truD_int, truD_bl, truD_tup, truD_non, seqW_tup, seqW_ref, enumW_tup, enumW_ref, revW_tup, revW_ref, rngW1_int, rngW2_int, slD_tup, slD_ref, slD_frl, popD_ref, appendD_ref, extendD_ref, setD_ref, bindG_nm, bindG_tup, bindGs_nil, bindGs_cons, ixD_ref, startD, List.map_cons, List.map_nil, List.length_cons, List.length_nil, List.cons_append, List.nil_append, List.getElem?_cons_zero, List.getElem?_cons_succ, List.set_cons_zero, List.set_cons_succ, Option.some.injEq, exists_eq_left', exists_eq_left, Option.bind_some, Nat.reduceAdd, Nat.reduceSub, List.replicate_succ, List.replicate_zero, Dt.bl.injEq, Dt.int.injEq, decide_eq_true_eq, decide_eq_false_iff_not, Bool.false_eq_true, Bool.true_eq_false, if_true, if_false, Bool.not_eq_true', Bool.not_true, Bool.not_false, bne_iff_ne, ne_eq, ixD_fr0, ixD_fr1, ixD_pair0, ixD_pair1, Dt.ref.injEq, List.cons.injEq, and_true, true_and, reduceIte, exists_eq, Nat.zero_add, Dt.tup.injEq, and_self, and_assoc, exists_and_left, fr_inj, pl_inj, ite_true, ite_false]
    split
    · refine perr_of hx ?_
      rw [seq_step]; simp only [rsFor, rLc, wipeD, rsNext, rsDrop, rsRet, rsRetN, rsIf, rsAsg, rsPar, rsPar3, rsAug, rsSet, rsBreak, rsCont, rVar, rC, rBin, rTru, rTest, rChain, rNeg, rNot, rAnd, rOr, rIf, rAndV, rOrV, rNotV, rNil, rCons, rTup, rLst, rNone, rSome, rSl, rCall, rCallK, rBlt, rLRev, rMeth, rMeth0, rYes, wSeq, wEnum, wRev, wRng1, wRng2, addD_int, addD_tup, addD_str, addD_ref, subD_int, mulD_int, mulD_ref, mulD_tup, fdivD_int, modD_int, powD_int, cmpD_int, isD_non, isnD_non, iaddD_int, isNon_non, isNon_int, isNon_str, isNon_tup, isNon_fr, isNon_bl, eqD_int, neD_int, absD_int, intD_int, intD_bl, lenD_tup, lenD_ref, lenD_pl, listD_pl, tupleD_pl, seqW_pl, enumW_pl, revW_pl, slD_pl, isNon_pl, addD_pl, listD_tup, listD_ref, tupleD_tup, tupleD_ref, max2D_int, min2D_int, truD_int, truD_bl, truD_tup, truD_non, seqW_tup, seqW_ref, enumW_tup, enumW_ref, revW_tup, revW_ref, rngW1_int, rngW2_int, slD_tup, slD_ref, slD_frl, popD_ref, appendD_ref, extendD_ref, setD_ref, bindG_nm, bindG_tup, bindGs_nil, bindGs_cons, ixD_ref, startD, List.map_cons, List.map_nil, List.length_cons, List.length_nil, List.cons_append, List.nil_append, List.getElem?_cons_zero, List.getElem?_cons_succ, List.set_cons_zero, List.set_cons_succ, Option.some.injEq, exists_eq_left', exists_eq_left, Option.bind_some, Nat.reduceAdd, Nat.reduceSub, List.replicate_succ, List.replicate_zero, Dt.bl.injEq, Dt.int.injEq, decide_eq_true_eq, decide_eq_false_iff_not, Bool.false_eq_true, Bool.true_eq_false, if_true, if_false, Bool.not_eq_true', Bool.not_true, Bool.not_false, bne_iff_ne, ne_eq, ixD_fr0, ixD_fr1, ixD_pair0, ixD_pair1, Dt.ref.injEq, List.cons.injEq, and_true, true_and, reduceIte, exists_eq, Nat.zero_add, Dt.tup.injEq, and_self, and_assoc, exists_and_left, fr_inj, pl_inj, ite_true, ite_false]
      refine lfault_of hx (is_of hp' hp' ?_)
      simp only [rsFor, rLc, wipeD, rsNext, rsDrop, rsRet, rsRetN, rsIf, rsAsg, rsPar, rsPar3, rsAug, rsSet, rsBreak, rsCont, rVar, rC, rBin, rTru, rTest, rChain, rNeg, rNot, rAnd, rOr, rIf, rAndV, rOrV, rNotV, rNil, rCons, rTup, rLst, rNone, rSome, rSl, rCall, rCallK, rBlt, rLRev, rMeth, rMeth0, rYes, wSeq, wEnum, wRev, wRng1, wRng2, addD_int, addD_tup, addD_str, addD_ref, subD_int, mulD_int, mulD_ref, mulD_tup, fdivD_int, modD_int, powD_int, cmpD_int, isD_non, isnD_non, iaddD_int, isNon_non, isNon_int, isNon_str, isNon_tup, isNon_fr, isNon_bl, eqD_int, neD_int, absD_int, intD_int, intD_bl, lenD_tup, lenD_ref, lenD_pl, listD_pl, tupleD_pl, seqW_pl, enumW_pl, revW_pl, slD_pl, isNon_pl, addD_pl, listD_tup, listD_ref, tupleD_tup, tupleD_ref, max2D_int, min2D_int, truD_int, truD_bl, truD_tup, truD_non, seqW_tup, seqW_ref, enumW_tup, enumW_ref, revW_tup, revW_ref, rngW1_int, rngW2_int, slD_tup, slD_ref, slD_frl, popD_ref, appendD_ref, extendD_ref, setD_ref, bindG_nm, bindG_tup, bindGs_nil, bindGs_cons, ixD_ref, startD, List.map_cons, List.map_nil, List.length_cons, List.length_nil, List.cons_append, List.nil_append, List.getElem?_cons_zero, List.getElem?_cons_succ, List.set_cons_zero, List.set_cons_succ, Option.some.injEq, exists_eq_left', exists_eq_left, Option.bind_some, Nat.reduceAdd, Nat.reduceSub, List.replicate_succ, List.replicate_zero, Dt.bl.injEq, Dt.int.injEq, decide_eq_true_eq, decide_eq_false_iff_not, Bool.false_eq_true, Bool.true_eq_false, if_true, if_false, Bool.not_eq_true', Bool.not_true, Bool.not_false, bne_iff_ne, ne_eq, ixD_fr0, ixD_fr1, ixD_pair0, ixD_pair1, Dt.ref.injEq, List.cons.injEq, and_true, true_and, reduceIte, exists_eq, Nat.zero_add, Dt.tup.injEq, and_self, and_assoc, exists_and_left, fr_inj, pl_inj, ite_true, ite_false]
      exact rest
    · refine perr_of hx ?_
      rw [seq_step]; simp only [rsFor, rLc, wipeD, rsNext, rsDrop, rsRet, rsRetN, rsIf, rsAsg, rsPar, rsPar3, rsAug, rsSet, rsBreak, rsCont, rVar, rC, rBin, rTru, rTest, rChain, rNeg, rNot, rAnd, rOr, rIf, rAndV, rOrV, rNotV, rNil, rCons, rTup, rLst, rNone, rSome, rSl, rCall, rCallK, rBlt, rLRev, rMeth, rMeth0, rYes, wSeq, wEnum, wRev, wRng1, wRng2, addD_int, addD_tup, addD_str, addD_ref, subD_int, mulD_int, mulD_ref, mulD_tup, fdivD_int, modD_int, powD_int, cmpD_int, isD_non, isnD_non, iaddD_int, isNon_non, isNon_int, isNon_str, isNon_tup, isNon_fr, isNon_bl, eqD_int, neD_int, absD_int, intD_int, intD_bl, lenD_tup, lenD_ref, lenD_pl, listD_pl, tupleD_pl, seqW_pl, enumW_pl, revW_pl, slD_pl, isNon_pl, addD_pl, listD_tup, listD_ref, tupleD_tup, tupleD_ref, max2D_int, min2D_int, truD_int, truD_bl, truD_tup, truD_non, seqW_tup, seqW_ref, enumW_tup, enumW_ref, revW_tup, revW_ref, rngW1_int, rngW2_int, slD_tup, slD_ref, slD_frl, popD_ref, appendD_ref, extendD_ref, setD_ref, bindG_nm, bindG_tup, bindGs_nil, bindGs_cons, ixD_ref, startD, List.map_cons, List.map_nil, List.length_cons, List.length_nil, List.cons_append, List.nil_append, List.getElem?_cons_zero, List.getElem?_cons_succ, List.set_cons_zero, List.set_cons_succ, Option.some.injEq, exists_eq_left', exists_eq_left, Option.bind_some, Nat.reduceAdd, Nat.reduceSub, List.replicate_succ, List.replicate_zero, Dt.bl.injEq, Dt.int.injEq, decide_eq_true_eq, decide_eq_false_iff_not, Bool.false_eq_true, Bool.true_eq_false, if_true, if_false, Bool.not_eq_true', Bool.not_true, Bool.not_false, bne_iff_ne, ne_eq, ixD_fr0, ixD_fr1, ixD_pair0, ixD_pair1, Dt.ref.injEq, List.cons.injEq, and_true, true_and, reduceIte, exists_eq, Nat.zero_add, Dt.tup.injEq, and_self, and_assoc, exists_and_left, fr_inj, pl_inj, ite_true, ite_false]
      refine lfault_of hx (is_of hp' hp' ?_)
      simp only [rsFor, rLc, wipeD, rsNext, rsDrop, rsRet, rsRetN, rsIf, rsAsg, rsPar, rsPar3, rsAug, rsSet, rsBreak, rsCont, rVar, rC, rBin, rTru, rTest, rChain, rNeg, rNot, rAnd, rOr, rIf, rAndV, rOrV, rNotV, rNil, rCons, rTup, rLst, rNone, rSome, rSl, rCall, rCallK, rBlt, rLRev, rMeth, rMeth0, rYes, wSeq, wEnum, wRev, wRng1, wRng2, addD_int, addD_tup, addD_str, addD_ref, subD_int, mulD_int, mulD_ref, mulD_tup, fdivD_int, modD_int, powD_int, cmpD_int, isD_non, isnD_non, iaddD_int, isNon_non, isNon_int, isNon_str, isNon_tup, isNon_fr, isNon_bl, eqD_int, neD_int, absD_int, intD_int, intD_bl, lenD_tup, lenD_ref, lenD_pl, listD_pl, tupleD_pl, seqW_pl, enumW_pl, revW_pl, slD_pl, isNon_pl, addD_pl, listD_tup, listD_ref, tupleD_tup, tupleD_ref, max2D_int, min2D_int, truD_int, truD_bl, truD_tup, truD_non, seqW_tup, seqW_ref, enumW_tup, enumW_ref, revW_tup, revW_ref, rngW1_int, rngW2_int, slD_tup, slD_ref, slD_frl, popD_ref, appendD_ref, extendD_ref, setD_ref, bindG_nm, bindG_tup, bindGs_nil, bindGs_cons, ixD_ref, startD, List.map_cons, List.map_nil, List.length_cons, List.length_nil, List.cons_append, List.nil_append, List.getElem?_cons_zero, List.getElem?_cons_succ, List.set_cons_zero, List.set_cons_succ, Option.some.injEq, exists_eq_left', exists_eq_left, Option.bind_some, Nat.reduceAdd, Nat.reduceSub, List.replicate_succ, List.replicate_zero, Dt.bl.injEq, Dt.int.injEq, decide_eq_true_eq, decide_eq_false_iff_not, Bool.false_eq_true, Bool.true_eq_false, if_true, if_false, Bool.not_eq_true', Bool.not_true, Bool.not_false, bne_iff_ne, ne_eq, ixD_fr0, ixD_fr1, ixD_pair0, ixD_pair1, Dt.ref.injEq, List.cons.injEq, and_true, true_and, reduceIte, exists_eq, Nat.zero_add, Dt.tup.injEq, and_self, and_assoc, exists_and_left, fr_inj, pl_inj, ite_true, ite_false]
      exact rest
theorem hw__law_are_judged : ∀ ds St Q R, sp__law_are_judged ds St Q R → t__law_are_judged (endsD Q R) (startD ["bag", "poly", "is_named", "k", "odd", "other", "values", "value", "told"] ds) St := by
  rintro ds S Q R ⟨a, b, p, n, rfl, ⟨hB, hp⟩, hQ⟩
  have hl := hp.ln
  unfold t__law_are_judged
  simp only [startD, pl]
  rw [seq_step]; simp only [rsFor, rLc, wipeD, rsNext, rsDrop, rsRet, rsRetN, rsIf, rsAsg, rsPar, rsPar3, rsAug, rsSet, rsBreak, rsCont, rVar, rC, rBin, rTru, rTest, rChain, rNeg, rNot, rAnd, rOr, rIf, rAndV, rOrV, rNotV, rNil, rCons, rTup, rLst, rNone, rSome, rSl, rCall, rCallK, rBlt, rLRev, rMeth, rMeth0, rYes, wSeq, wEnum, wRev, wRng1, wRng2, addD_int, addD_tup, addD_str, addD_ref, subD_int, mulD_int, mulD_ref, mulD_tup, fdivD_int, modD_int, powD_int, cmpD_int, isD_non, isnD_non, iaddD_int, isNon_non, isNon_int, isNon_str, isNon_tup, isNon_fr, isNon_bl, eqD_int, neD_int, absD_int, intD_int, intD_bl, lenD_tup, lenD_ref, lenD_pl, listD_pl, tupleD_pl, seqW_pl, enumW_pl, revW_pl, slD_pl, isNon_pl, addD_pl, listD_tup, listD_ref, tupleD_tup, tupleD_ref, max2D_int, min2D_int, truD_int, truD_bl, truD_tup, truD_non, seqW_tup, seqW_ref, enumW_tup, enumW_ref, revW_tup, revW_ref, rngW1_int, rngW2_int, slD_tup, slD_ref, slD_frl, popD_ref, appendD_ref, extendD_ref, setD_ref, bindG_nm, bindG_tup, bindGs_nil, bindGs_cons, ixD_ref, startD, List.map_cons, List.map_nil, List.length_cons, List.length_nil, List.cons_append, List.nil_append, List.getElem?_cons_zero, List.getElem?_cons_succ, List.set_cons_zero, List.set_cons_succ, Option.some.injEq, exists_eq_left', exists_eq_left, Option.bind_some, Nat.reduceAdd, Nat.reduceSub, List.replicate_succ, List.replicate_zero, Dt.bl.injEq, Dt.int.injEq, decide_eq_true_eq, decide_eq_false_iff_not, Bool.false_eq_true, Bool.true_eq_false, if_true, if_false, Bool.not_eq_true', Bool.not_true, Bool.not_false, bne_iff_ne, ne_eq, ixD_fr0, ixD_fr1, ixD_pair0, ixD_pair1, Dt.ref.injEq, List.cons.injEq, and_true, true_and, reduceIte, exists_eq, Nat.zero_add, Dt.tup.injEq, and_self, and_assoc, exists_and_left, fr_inj, pl_inj, ite_true, ite_false]
  refine draw_of hB (by rw [List.length_map]; omega) (by rw [List.length_map]; omega) fun k S1 k0 k1 B1 K1 => ?_
  rw [seq_step]; simp only [rsFor, rLc, wipeD, rsNext, rsDrop, rsRet, rsRetN, rsIf, rsAsg, rsPar, rsPar3, rsAug, rsSet, rsBreak, rsCont, rVar, rC, rBin, rTru, rTest, rChain, rNeg, rNot, rAnd, rOr, rIf, rAndV, rOrV, rNotV, rNil, rCons, rTup, rLst, rNone, rSome, rSl, rCall, rCallK, rBlt, rLRev, rMeth, rMeth0, rYes, wSeq, wEnum, wRev, wRng1, wRng2, addD_int, addD_tup, addD_str, addD_ref, subD_int, mulD_int, mulD_ref, mulD_tup, fdivD_int, modD_int, powD_int, cmpD_int, isD_non, isnD_non, iaddD_int, isNon_non, isNon_int, isNon_str, isNon_tup, isNon_fr, isNon_bl, eqD_int, neD_int, absD_int, intD_int, intD_bl, lenD_tup, lenD_ref, lenD_pl, listD_pl, tupleD_pl, seqW_pl, enumW_pl, revW_pl, slD_pl, isNon_pl, addD_pl, listD_tup, listD_ref, tupleD_tup, tupleD_ref, max2D_int, min2D_int, truD_int, truD_bl, truD_tup, truD_non, seqW_tup, seqW_ref, enumW_tup, enumW_ref, revW_tup, revW_ref, rngW1_int, rngW2_int, slD_tup, slD_ref, slD_frl, popD_ref, appendD_ref, extendD_ref, setD_ref, bindG_nm, bindG_tup, bindGs_nil, bindGs_cons, ixD_ref, startD, List.map_cons, List.map_nil, List.length_cons, List.length_nil, List.cons_append, List.nil_append, List.getElem?_cons_zero, List.getElem?_cons_succ, List.set_cons_zero, List.set_cons_succ, Option.some.injEq, exists_eq_left', exists_eq_left, Option.bind_some, Nat.reduceAdd, Nat.reduceSub, List.replicate_succ, List.replicate_zero, Dt.bl.injEq, Dt.int.injEq, decide_eq_true_eq, decide_eq_false_iff_not, Bool.false_eq_true, Bool.true_eq_false, if_true, if_false, Bool.not_eq_true', Bool.not_true, Bool.not_false, bne_iff_ne, ne_eq, ixD_fr0, ixD_fr1, ixD_pair0, ixD_pair1, Dt.ref.injEq, List.cons.injEq, and_true, true_and, reduceIte, exists_eq, Nat.zero_add, Dt.tup.injEq, and_self, and_assoc, exists_and_left, fr_inj, pl_inj, ite_true, ite_false]
  refine ⟨by decide, by decide, by decide, by decide, by decide, by decide, fun c hc => ⟨by decide, by decide, by decide, fun e he => ?_⟩⟩
  obtain ⟨c1, c2⟩ := B1.nep hc
  refine pick_new (B1.new hc) he (by simp) (by simp) fun S3 odd hodd B3 K3 => ?_
  have K03 : Keep a b S S3 := (K1.trans (.new hc)).trans K3
  have hc3 : S3 c = some (.lst [.int 1, .int 2]) := K3 c _ c1 c2 put_same
  have pvo : ∀ S', Keep a b S3 S' → PV S' odd := fun S' hK => by
    have hcS := lst_of (hK c _ c1 c2 hc3)
    have t2 : ∀ x y : Dt, PV S' x → PV S' y → PV S' (.tup [x, y]) := fun x y hx hy => .tup (PVL.cons hx (.cons hy .nil))
    simp only [List.mem_cons, List.mem_nil_iff, or_false] at hodd
    rcases hodd with e | e | e | e | e | e | e | e | e | e | e <;> subst e
    · exact t2 _ _ (.int _) (.int _)
    · exact t2 _ _ (.int _) (.int _)
    · exact t2 _ _ (.int _) (.int _)
    · exact t2 _ _ (.int _) (.int _)
    · exact t2 _ _ (.bl _) (.int _)
    · exact .ref hcS
    · exact .tup (PVL.cons (.int _) .nil)
    · exact .non
    · exact .int _
    · exact .tup (PVL.cons (.int _) (.cons (.int _) (.cons (.int _) .nil)))
    · exact .str _
  clear hodd hc3 he hc K3
  rw [seq_step]; simp only [rsFor, rLc, wipeD, rsNext, rsDrop, rsRet, rsRetN, rsIf, rsAsg, rsPar, rsPar3, rsAug, rsSet, rsBreak, rsCont, rVar, rC, rBin, rTru, rTest, rChain, rNeg, rNot, rAnd, rOr, rIf, rAndV, rOrV, rNotV, rNil, rCons, rTup, rLst, rNone, rSome, rSl, rCall, rCallK, rBlt, rLRev, rMeth, rMeth0, rYes, wSeq, wEnum, wRev, wRng1, wRng2, addD_int, addD_tup, addD_str, addD_ref, subD_int, mulD_int, mulD_ref, mulD_tup, fdivD_int, modD_int, powD_int, cmpD_int, isD_non, isnD_non, iaddD_int, isNon_non, isNon_int, isNon_str, isNon_tup, isNon_fr, isNon_bl, eqD_int, neD_int, absD_int, intD_int, intD_bl, lenD_tup, lenD_ref, lenD_pl, listD_pl, tupleD_pl, seqW_pl, enumW_pl, revW_pl, slD_pl, isNon_pl, addD_pl, listD_tup, listD_ref, tupleD_tup, tupleD_ref, max2D_int, min2D_int, truD_int, truD_bl, truD_tup, truD_non, seqW_tup, seqW_ref, enumW_tup, enumW_ref, revW_tup, revW_ref, rngW1_int, rngW2_int, slD_tup, slD_ref, slD_frl, popD_ref, appendD_ref, extendD_ref, setD_ref, bindG_nm, bindG_tup, bindGs_nil, bindGs_cons, ixD_ref, startD, List.map_cons, List.map_nil, List.length_cons, List.length_nil, List.cons_append, List.nil_append, List.getElem?_cons_zero, List.getElem?_cons_succ, List.set_cons_zero, List.set_cons_succ, Option.some.injEq, exists_eq_left', exists_eq_left, Option.bind_some, Nat.reduceAdd, Nat.reduceSub, List.replicate_succ, List.replicate_zero, Dt.bl.injEq, Dt.int.injEq, decide_eq_true_eq, decide_eq_false_iff_not, Bool.false_eq_true, Bool.true_eq_false, if_true, if_false, Bool.not_eq_true', Bool.not_true, Bool.not_false, bne_iff_ne, ne_eq, ixD_fr0, ixD_fr1, ixD_pair0, ixD_pair1, Dt.ref.injEq, List.cons.injEq, and_true, true_and, reduceIte, exists_eq, Nat.zero_add, Dt.tup.injEq, and_self, and_assoc, exists_and_left, fr_inj, pl_inj, ite_true, ite_false]
  refine ⟨by decide, by decide, by decide, by decide, fun e he => ?_⟩
  refine pick_new B3 he (by simp) (by simp) fun S4 other hoth B4 K4 => ?_
  have K04 : Keep a b S S4 := K03.trans K4
  have pvr : ∀ S', PV S' other := fun S' => by
    have t2 : ∀ x y : Dt, PV S' x → PV S' y → PV S' (.tup [x, y]) := fun x y hx hy => .tup (PVL.cons hx (.cons hy .nil))
    simp only [List.mem_cons, List.mem_nil_iff, or_false] at hoth
    rcases hoth with e | e | e | e <;> subst e
    · exact t2 _ _ (.int _) (.int _)
    · exact t2 _ _ (.int _) (.int _)
    · exact .non
    · exact t2 _ _ (.int _) (.int _)
  have pvo4 : ∀ S', Keep a b S4 S' → PV S' odd := fun S' h => pvo S' (K4.trans h)
  clear hoth he pvo
  rw [seq_step]; simp only [rsFor, rLc, wipeD, rsNext, rsDrop, rsRet, rsRetN, rsIf, rsAsg, rsPar, rsPar3, rsAug, rsSet, rsBreak, rsCont, rVar, rC, rBin, rTru, rTest, rChain, rNeg, rNot, rAnd, rOr, rIf, rAndV, rOrV, rNotV, rNil, rCons, rTup, rLst, rNone, rSome, rSl, rCall, rCallK, rBlt, rLRev, rMeth, rMeth0, rYes, wSeq, wEnum, wRev, wRng1, wRng2, addD_int, addD_tup, addD_str, addD_ref, subD_int, mulD_int, mulD_ref, mulD_tup, fdivD_int, modD_int, powD_int, cmpD_int, isD_non, isnD_non, iaddD_int, isNon_non, isNon_int, isNon_str, isNon_tup, isNon_fr, isNon_bl, eqD_int, neD_int, absD_int, intD_int, intD_bl, lenD_tup, lenD_ref, lenD_pl, listD_pl, tupleD_pl, seqW_pl, enumW_pl, revW_pl, slD_pl, isNon_pl, addD_pl, listD_tup, listD_ref, tupleD_tup, tupleD_ref, max2D_int, min2D_int, truD_int, truD_bl, truD_tup, truD_non, seqW_tup, seqW_ref, enumW_tup, enumW_ref, revW_tup, revW_ref, rngW1_int, rngW2_int, slD_tup, slD_ref, slD_frl, popD_ref, appendD_ref, extendD_ref, setD_ref, bindG_nm, bindG_tup, bindGs_nil, bindGs_cons, ixD_ref, startD, List.map_cons, List.map_nil, List.length_cons, List.length_nil, List.cons_append, List.nil_append, List.getElem?_cons_zero, List.getElem?_cons_succ, List.set_cons_zero, List.set_cons_succ, Option.some.injEq, exists_eq_left', exists_eq_left, Option.bind_some, Nat.reduceAdd, Nat.reduceSub, List.replicate_succ, List.replicate_zero, Dt.bl.injEq, Dt.int.injEq, decide_eq_true_eq, decide_eq_false_iff_not, Bool.false_eq_true, Bool.true_eq_false, if_true, if_false, Bool.not_eq_true', Bool.not_true, Bool.not_false, bne_iff_ne, ne_eq, ixD_fr0, ixD_fr1, ixD_pair0, ixD_pair1, Dt.ref.injEq, List.cons.injEq, and_true, true_and, reduceIte, exists_eq, Nat.zero_add, Dt.tup.injEq, and_self, and_assoc, exists_and_left, fr_inj, pl_inj, ite_true, ite_false]
  have sl : sizeLine = 16777216 := by decide
  have lm : (p.map fr).length = p.length := List.length_map _
  have e8 : (List.replicate (Int.toNat 8) [Dt.tup [Dt.int 1, Dt.int 1]]).flatten.length = 8 := rfl
  have c1 := cut_len (xs := p.map fr) (lo := none) (hi := some k)
  have c2 := cut_len (xs := p.map fr) (lo := some k) (hi := none)
  have o4 := pvo4 S4 .refl
  have t2 : ∀ (S' : Sto) (i j : Int), PV S' (.tup [.int i, .int j]) := fun S' i j => .tup (PVL.cons (.int _) (.cons (.int _) .nil))
  intro A hA
  refine ⟨by decide, by decide, by omega, by decide, by omega, by rw [List.length_append, List.length_singleton]; omega, by decide, by decide, by decide, by decide, by decide, by omega, by decide, fun V hV => ?_⟩
  have pA : PV (put S4 A (.lst (p.map fr))) (.ref A) := .ref lst_same
  have o5 : PV (put S4 A (.lst (p.map fr))) odd := o4.put
  have B5 := B4.new (o := .lst (p.map fr)) hA
  have K5 := K04.trans (Keep.new (o := .lst (p.map fr)) hA)
  generalize put S4 A (.lst (p.map fr)) = S5 at pA o5 hV B5 K5 ⊢
  have pv1 : PVL S5 [Dt.tup (p.map fr), Dt.ref A, Dt.tup (p.map fr ++ [Dt.tup [Dt.int 0, Dt.int 1]]), Dt.tup (cutD (p.map fr) none (some k) ++ [odd] ++ cutD (p.map fr) (some k) none), Dt.tup (p.map fr ++ (List.replicate (Int.toNat 8) [Dt.tup [Dt.int 1, Dt.int 1]]).flatten)] :=
    .cons (.tup pvl_frs) (.cons pA (.cons (.tup (pvl_frs.app (PVL.cons (t2 _ _ _) .nil))) (.cons (.tup ((pvl_frs.cut.app (PVL.cons o5 .nil)).app pvl_frs.cut)) (.cons (.tup (pvl_frs.app (PVL.rep (PVL.cons (t2 _ _ _) .nil)))) .nil))))
  generalize hxs : [Dt.tup (p.map fr), Dt.ref A, Dt.tup (p.map fr ++ [Dt.tup [Dt.int 0, Dt.int 1]]), Dt.tup (cutD (p.map fr) none (some k) ++ [odd] ++ cutD (p.map fr) (some k) none), Dt.tup (p.map fr ++ (List.replicate (Int.toNat 8) [Dt.tup [Dt.int 1, Dt.int 1]]).flatten)] = xs at pv1 ⊢
  have lx : xs.length = 5 := by rw [← hxs]; rfl
  obtain ⟨v1, v2⟩ := B5.nep hV
  have fV : S V = none := by
    cases h : S V with
    | none => rfl
    | some o => rw [K5 V o v1 v2 h] at hV; cases hV
  have B6 := B5.new (o := .lst xs) hV
  have K6 := K5.trans (Keep.new (o := .lst xs) hV)
  have o6 : PV (put S5 V (.lst xs)) odd := o5.put
  have at6 : put S5 V (.lst xs) V = some (.lst xs) := put_same
  have pv6 : PVL (put S5 V (.lst xs)) xs := pv1.put
  generalize put S5 V (.lst xs) = S6 at B6 K6 o6 at6 pv6 ⊢
  clear hxs pv1 pA o5 o4
  rw [seq_step]; simp only [rsFor, rLc, wipeD, rsNext, rsDrop, rsRet, rsRetN, rsIf, rsAsg, rsPar, rsPar3, rsAug, rsSet, rsBreak, rsCont, rVar, rC, rBin, rTru, rTest, rChain, rNeg, rNot, rAnd, rOr, rIf, rAndV, rOrV, rNotV, rNil, rCons, rTup, rLst, rNone, rSome, rSl, rCall, rCallK, rBlt, rLRev, rMeth, rMeth0, rYes, wSeq, wEnum, wRev, wRng1, wRng2, addD_int, addD_tup, addD_str, addD_ref, subD_int, mulD_int, mulD_ref, mulD_tup, fdivD_int, modD_int, powD_int, cmpD_int, isD_non, isnD_non, iaddD_int, isNon_non, isNon_int, isNon_str, isNon_tup, isNon_fr, isNon_bl, eqD_int, neD_int, absD_int, intD_int, intD_bl, lenD_tup, lenD_ref, lenD_pl, listD_pl, tupleD_pl, seqW_pl, enumW_pl, revW_pl, slD_pl, isNon_pl, addD_pl, listD_tup, listD_ref, tupleD_tup, tupleD_ref, max2D_int, min2D_int, truD_int, truD_bl, truD_tup, truD_non, seqW_tup, seqW_ref, enumW_tup, enumW_ref, revW_tup, revW_ref, rngW1_int, rngW2_int, slD_tup, slD_ref, slD_frl, popD_ref, appendD_ref, extendD_ref, setD_ref, bindG_nm, bindG_tup, bindGs_nil, bindGs_cons, ixD_ref, startD, List.map_cons, List.map_nil, List.length_cons, List.length_nil, List.cons_append, List.nil_append, List.getElem?_cons_zero, List.getElem?_cons_succ, List.set_cons_zero, List.set_cons_succ, Option.some.injEq, exists_eq_left', exists_eq_left, Option.bind_some, Nat.reduceAdd, Nat.reduceSub, List.replicate_succ, List.replicate_zero, Dt.bl.injEq, Dt.int.injEq, decide_eq_true_eq, decide_eq_false_iff_not, Bool.false_eq_true, Bool.true_eq_false, if_true, if_false, Bool.not_eq_true', Bool.not_true, Bool.not_false, bne_iff_ne, ne_eq, ixD_fr0, ixD_fr1, ixD_pair0, ixD_pair1, Dt.ref.injEq, List.cons.injEq, and_true, true_and, reduceIte, exists_eq, Nat.zero_add, Dt.tup.injEq, and_self, and_assoc, exists_and_left, fr_inj, pl_inj, ite_true, ite_false]
  refine ⟨⟨_, at6⟩, by decide, by rw [lm]; omega, by decide, by rw [lm]; omega, by decide, by rw [lm]; omega, by decide, by decide, by rw [lm]; omega, by decide, by decide, fun E hE => ?_⟩
  have nE : E ≠ V := fun e => by rw [e, at6] at hE; cases hE
  refine ⟨xs, by rw [put_ne nE.symm]; exact at6, _, put_same, by rw [lx]; show 5 + 7 ≤ sizeLine; decide, ?_⟩
  have pvE : PVL S6 [Dt.tup (p.map fr ++ [odd]), Dt.tup (p.map fr ++ [other, odd]), Dt.tup (odd :: p.map fr), Dt.tup (p.map fr ++ [odd, Dt.tup [Dt.int 0, Dt.int 1]]), Dt.non, odd, Dt.tup [Dt.tup (p.map fr)]] :=
    .cons (.tup (pvl_frs.app (PVL.cons o6 .nil))) (.cons (.tup (pvl_frs.app (PVL.cons (pvr _) (.cons o6 .nil)))) (.cons (.tup (PVL.cons o6 pvl_frs)) (.cons (.tup (pvl_frs.app (PVL.cons o6 (.cons (t2 _ _ _) .nil)))) (.cons .non (.cons o6 (.cons (.tup (PVL.cons (.tup pvl_frs) .nil)) .nil))))))
  generalize hys : [Dt.tup (p.map fr ++ [odd]), Dt.tup (p.map fr ++ [other, odd]), Dt.tup (odd :: p.map fr), Dt.tup (p.map fr ++ [odd, Dt.tup [Dt.int 0, Dt.int 1]]), Dt.non, odd, Dt.tup [Dt.tup (p.map fr)]] = ys at pvE ⊢
  have ly : ys.length = 7 := by rw [← hys]; rfl
  have B7 := (B6.new (o := .lst ys) hE).other (o := .lst (xs ++ ys)) v1 v2
  have K7 := (K6.trans (Keep.new (o := .lst ys) hE)).putN (o := .lst (xs ++ ys)) fV
  have pv7 : PVL (put (put S6 E (.lst ys)) V (.lst (xs ++ ys))) (xs ++ ys) := ((pv6.app pvE).put).put
  have at7 : put (put S6 E (.lst ys)) V (.lst (xs ++ ys)) V = some (.lst (xs ++ ys)) := put_same
  have l7 : (xs ++ ys).length = 12 := by rw [List.length_append, lx, ly]
  generalize put (put S6 E (.lst ys)) V (.lst (xs ++ ys)) = S7 at B7 K7 pv7 at7 ⊢
  generalize xs ++ ys = zs at pv7 at7 l7 ⊢
  clear hys pvE o6 pv6 at6
  rw [seq_step]; simp only [rsFor, rLc, wipeD, rsNext, rsDrop, rsRet, rsRetN, rsIf, rsAsg, rsPar, rsPar3, rsAug, rsSet, rsBreak, rsCont, rVar, rC, rBin, rTru, rTest, rChain, rNeg, rNot, rAnd, rOr, rIf, rAndV, rOrV, rNotV, rNil, rCons, rTup, rLst, rNone, rSome, rSl, rCall, rCallK, rBlt, rLRev, rMeth, rMeth0, rYes, wSeq, wEnum, wRev, wRng1, wRng2, addD_int, addD_tup, addD_str, addD_ref, subD_int, mulD_int, mulD_ref, mulD_tup, fdivD_int, modD_int, powD_int, cmpD_int, isD_non, isnD_non, iaddD_int, isNon_non, isNon_int, isNon_str, isNon_tup, isNon_fr, isNon_bl, eqD_int, neD_int, absD_int, intD_int, intD_bl, lenD_tup, lenD_ref, lenD_pl, listD_pl, tupleD_pl, seqW_pl, enumW_pl, revW_pl, slD_pl, isNon_pl, addD_pl, listD_tup, listD_ref, tupleD_tup, tupleD_ref, max2D_int, min2D_int, truD_int, truD_bl, truD_tup, truD_non, seqW_tup, seqW_ref, enumW_tup, enumW_ref, revW_tup, revW_ref, rngW1_int, rngW2_int, slD_tup, slD_ref, slD_frl, popD_ref, appendD_ref, extendD_ref, setD_ref, bindG_nm, bindG_tup, bindGs_nil, bindGs_cons, ixD_ref, startD, List.map_cons, List.map_nil, List.length_cons, List.length_nil, List.cons_append, List.nil_append, List.getElem?_cons_zero, List.getElem?_cons_succ, List.set_cons_zero, List.set_cons_succ, Option.some.injEq, exists_eq_left', exists_eq_left, Option.bind_some, Nat.reduceAdd, Nat.reduceSub, List.replicate_succ, List.replicate_zero, Dt.bl.injEq, Dt.int.injEq, decide_eq_true_eq, decide_eq_false_iff_not, Bool.false_eq_true, Bool.true_eq_false, if_true, if_false, Bool.not_eq_true', Bool.not_true, Bool.not_false, bne_iff_ne, ne_eq, ixD_fr0, ixD_fr1, ixD_pair0, ixD_pair1, Dt.ref.injEq, List.cons.injEq, and_true, true_and, reduceIte, exists_eq, Nat.zero_add, Dt.tup.injEq, and_self, and_assoc, exists_and_left, fr_inj, pl_inj, ite_true, ite_false]
  refine ⟨⟨_, at7⟩, by decide, by decide, by decide, by decide, by decide, zs, at7, by rw [l7]; decide, ?_⟩
  have B8 := B7.other (o := .lst (zs ++ [Dt.tup (List.replicate (Int.toNat 7) [Dt.tup [Dt.int 0, Dt.int 1]]).flatten])) v1 v2
  have K8 := K7.putN (o := .lst (zs ++ [Dt.tup (List.replicate (Int.toNat 7) [Dt.tup [Dt.int 0, Dt.int 1]]).flatten])) fV
  have pv8 : PVL (put S7 V (.lst (zs ++ [Dt.tup (List.replicate (Int.toNat 7) [Dt.tup [Dt.int 0, Dt.int 1]]).flatten]))) (zs ++ [Dt.tup (List.replicate (Int.toNat 7) [Dt.tup [Dt.int 0, Dt.int 1]]).flatten]) :=
    (pv7.app (PVL.cons (.tup (PVL.rep (PVL.cons (t2 _ _ _) .nil))) .nil)).put
  have at8 : put S7 V (.lst (zs ++ [Dt.tup (List.replicate (Int.toNat 7) [Dt.tup [Dt.int 0, Dt.int 1]]).flatten])) V = some (.lst (zs ++ [Dt.tup (List.replicate (Int.toNat 7) [Dt.tup [Dt.int 0, Dt.int 1]]).flatten])) := put_same
  have l8 : (zs ++ [Dt.tup (List.replicate (Int.toNat 7) [Dt.tup [Dt.int 0, Dt.int 1]]).flatten]).length = 13 := by rw [List.length_append, l7]; rfl
  generalize put S7 V (.lst (zs ++ [Dt.tup (List.replicate (Int.toNat 7) [Dt.tup [Dt.int 0, Dt.int 1]]).flatten])) = S8 at B8 K8 pv8 at8 ⊢
  generalize zs ++ [Dt.tup (List.replicate (Int.toNat 7) [Dt.tup [Dt.int 0, Dt.int 1]]).flatten] = ws at pv8 at8 l8 ⊢
  clear pv7 at7 B7 K7
  rw [seq_step]; simp only [rsFor, rLc, wipeD, rsNext, rsDrop, rsRet, rsRetN, rsIf, rsAsg, rsPar, rsPar3, rsAug, rsSet, rsBreak, rsCont, rVar, rC, rBin, rTru, rTest, rChain, rNeg, rNot, rAnd, rOr, rIf, rAndV, rOrV, rNotV, rNil, rCons, rTup, rLst, rNone, rSome, rSl, rCall, rCallK, rBlt, rLRev, rMeth, rMeth0, rYes, wSeq, wEnum, wRev, wRng1, wRng2, addD_int, addD_tup, addD_str, addD_ref, subD_int, mulD_int, mulD_ref, mulD_tup, fdivD_int, modD_int, powD_int, cmpD_int, isD_non, isnD_non, iaddD_int, isNon_non, isNon_int, isNon_str, isNon_tup, isNon_fr, isNon_bl, eqD_int, neD_int, absD_int, intD_int, intD_bl, lenD_tup, lenD_ref, lenD_pl, listD_pl, tupleD_pl, seqW_pl, enumW_pl, revW_pl, slD_pl, isNon_pl, addD_pl, listD_tup, listD_ref, tupleD_tup, tupleD_ref, max2D_int, min2D_int, truD_int, truD_bl, truD_tup, truD_non, seqW_tup, seqW_ref, enumW_tup, enumW_ref, revW_tup, revW_ref, rngW1_int, rngW2_int, slD_tup, slD_ref, slD_frl, popD_ref, appendD_ref, extendD_ref, setD_ref, bindG_nm, bindG_tup, bindGs_nil, bindGs_cons, ixD_ref, startD, List.map_cons, List.map_nil, List.length_cons, List.length_nil, List.cons_append, List.nil_append, List.getElem?_cons_zero, List.getElem?_cons_succ, List.set_cons_zero, List.set_cons_succ, Option.some.injEq, exists_eq_left', exists_eq_left, Option.bind_some, Nat.reduceAdd, Nat.reduceSub, List.replicate_succ, List.replicate_zero, Dt.bl.injEq, Dt.int.injEq, decide_eq_true_eq, decide_eq_false_iff_not, Bool.false_eq_true, Bool.true_eq_false, if_true, if_false, Bool.not_eq_true', Bool.not_true, Bool.not_false, bne_iff_ne, ne_eq, ixD_fr0, ixD_fr1, ixD_pair0, ixD_pair1, Dt.ref.injEq, List.cons.injEq, and_true, true_and, reduceIte, exists_eq, Nat.zero_add, Dt.tup.injEq, and_self, and_assoc, exists_and_left, fr_inj, pl_inj, ite_true, ite_false]
  have lr : ∀ m : Nat, (List.replicate m [Dt.tup [Dt.int 0, Dt.int 1]]).flatten.length = m := fun m => by rw [zeros_flat, List.length_replicate]
  refine ⟨⟨_, at8⟩, by decide, by decide, by omega, by omega, by decide, by rw [lr]; omega, by decide, by decide, by rw [List.length_append, lr]; omega, ws, at8, by rw [l8]; decide, ?_⟩
  generalize hz : Dt.tup (p.map fr ++ (List.replicate (7 - ((p.map fr).length : Int)).toNat [Dt.tup [Dt.int 0, Dt.int 1]]).flatten ++ [Dt.tup [Dt.int 1, Dt.int 1]]) = z
  have pz : PV S8 z := by rw [← hz]; exact .tup ((pvl_frs.app (PVL.rep (PVL.cons (t2 _ _ _) .nil))).app (PVL.cons (t2 _ _ _) .nil))
  have B9 := B8.other (o := .lst (ws ++ [z])) v1 v2
  have K9 := K8.putN (o := .lst (ws ++ [z])) fV
  have pv9 : PVL (put S8 V (.lst (ws ++ [z]))) (ws ++ [z]) := (pv8.app (PVL.cons pz .nil)).put
  have at9 : lstOf (put S8 V (.lst (ws ++ [z]))) V = some (ws ++ [z]) := lst_same
  generalize put S8 V (.lst (ws ++ [z])) = S9 at B9 K9 pv9 at9 ⊢
  rw [seq_step]; simp only [rsFor, rLc, wipeD, rsNext, rsDrop, rsRet, rsRetN, rsIf, rsAsg, rsPar, rsPar3, rsAug, rsSet, rsBreak, rsCont, rVar, rC, rBin, rTru, rTest, rChain, rNeg, rNot, rAnd, rOr, rIf, rAndV, rOrV, rNotV, rNil, rCons, rTup, rLst, rNone, rSome, rSl, rCall, rCallK, rBlt, rLRev, rMeth, rMeth0, rYes, wSeq, wEnum, wRev, wRng1, wRng2, addD_int, addD_tup, addD_str, addD_ref, subD_int, mulD_int, mulD_ref, mulD_tup, fdivD_int, modD_int, powD_int, cmpD_int, isD_non, isnD_non, iaddD_int, isNon_non, isNon_int, isNon_str, isNon_tup, isNon_fr, isNon_bl, eqD_int, neD_int, absD_int, intD_int, intD_bl, lenD_tup, lenD_ref, lenD_pl, listD_pl, tupleD_pl, seqW_pl, enumW_pl, revW_pl, slD_pl, isNon_pl, addD_pl, listD_tup, listD_ref, tupleD_tup, tupleD_ref, max2D_int, min2D_int, truD_int, truD_bl, truD_tup, truD_non, seqW_tup, seqW_ref, enumW_tup, enumW_ref, revW_tup, revW_ref, rngW1_int, rngW2_int, slD_tup, slD_ref, slD_frl, popD_ref, appendD_ref, extendD_ref, setD_ref, bindG_nm, bindG_tup, bindGs_nil, bindGs_cons, ixD_ref, startD, List.map_cons, List.map_nil, List.length_cons, List.length_nil, List.cons_append, List.nil_append, List.getElem?_cons_zero, List.getElem?_cons_succ, List.set_cons_zero, List.set_cons_succ, Option.some.injEq, exists_eq_left', exists_eq_left, Option.bind_some, Nat.reduceAdd, Nat.reduceSub, List.replicate_succ, List.replicate_zero, Dt.bl.injEq, Dt.int.injEq, decide_eq_true_eq, decide_eq_false_iff_not, Bool.false_eq_true, Bool.true_eq_false, if_true, if_false, Bool.not_eq_true', Bool.not_true, Bool.not_false, bne_iff_ne, ne_eq, ixD_fr0, ixD_fr1, ixD_pair0, ixD_pair1, Dt.ref.injEq, List.cons.injEq, and_true, true_and, reduceIte, exists_eq, Nat.zero_add, Dt.tup.injEq, and_self, and_assoc, exists_and_left, fr_inj, pl_inj, ite_true, ite_false]
  refine ⟨_, at9, loop_judge (S := S9) at9 (fun n x7 x8 => ?_) _ _ _ _ pv9⟩
  show (endsD Q R).rt (.bl true) S9
  exact rt_of (hQ _ B9 K9)
theorem len__law_are_judged : ∀ ds S Q R, sp__law_are_judged ds S Q R → ds.length = 3 := by rintro ds S Q R ⟨a, b, p, n, rfl, _⟩; rfl
end Ev

namespace Ev
open PySem PySem.Spec PyProof.Rows L2
def sp_law : SpD := fun ds S Q _ => ∃ ns : List Int, ds = [.frl (iL ns)] ∧ ns.length ≤ 63 ∧ ∀ S', Q (.bl true) S'
def u_law : RS := rsSeq (rsAsg (rBlt reprD (rCons (rLst (rCons (rVar 6) (rCons (rVar 7) (rCons (rVar 8) rNil)))) rNil)) (Tg.nm 5)) (rsSeq (rsIf (rOr (rNot (rTru (rCall sp__law_are_judged (rCons (rVar 1) (rCons (rVar 6) (rCons (rVar 2) rNil)))))) (rNot (rTru (rCall sp__law_are_two_right (rCons (rVar 1) (rCons (rVar 6) (rCons (rVar 7) (rCons (rNotV (rVar 2)) rNil)))))))) (rsRet (rC (Dt.bl false))) rsNext) (rsSeq (rsIf (rNot (rTru (rCall sp__law_are_two_right (rCons (rVar 1) (rCons (rVar 6) (rCons (rCall sp__law_poly_scaled (rCons (rTup (rCons (rNeg (rC (Dt.int 1))) (rCons (rC (Dt.int 1)) rNil))) (rCons (rVar 6) rNil))) (rCons (rVar 2) rNil))))))) (rsRet (rC (Dt.bl false))) rsNext) (rsSeq (rsIf (rOr (rNot (rTru (rCall sp__law_are_three_right (rCons (rVar 6) (rCons (rVar 7) (rCons (rVar 8) (rCons (rVar 2) rNil))))))) (rTest (rBin neD (rBlt reprD (rCons (rLst (rCons (rVar 6) (rCons (rVar 7) (rCons (rVar 8) rNil)))) rNil)) (rVar 5)))) (rsRet (rC (Dt.bl false))) rsNext) (rsAsg (rNotV (rVar 2)) (Tg.nm 2)))))
def v_law : RS := rsSeq (rsIf (rTest (rBin eqD (rVar 4) (rC (Dt.int 1)))) (rsAsg (rCall sp__law_trim (rCons (rLc (wRng1 (rCons (rCall sp__law_draw (rCons (rVar 1) (rCons (rC (Dt.int 4)) rNil))) rNil)) (Tg.nm 10) rYes (rCall sp__law_fraction (rCons (rVar 1) rNil)) [10]) rNil)) (Tg.nm 6)) rsNext) u_law
def tb_law : RS := rsSeq (rsPar3 6 7 8 (rCons (rCall sp__law_poly (rCons (rVar 1) (rCons (rC (Dt.int 7)) rNil))) (rCons (rCall sp__law_poly (rCons (rVar 1) (rCons (rC (Dt.int 5)) rNil))) (rCons (rCall sp__law_poly (rCons (rVar 1) (rCons (rC (Dt.int 3)) rNil))) rNil)))) (rsSeq (rsAsg (rCall sp__law_draw (rCons (rVar 1) (rCons (rC (Dt.int 4)) rNil))) (Tg.nm 4)) (rsSeq (rsIf (rAnd (rTest (rBin eqD (rVar 4) (rC (Dt.int 0)))) (rTest (rBin neD (rVar 6) (rTup rNil)))) (rsSeq (rsAsg (rCall sp__law_draw (rCons (rVar 1) (rCons (rBlt lenD (rCons (rVar 6) rNil)) rNil))) (Tg.nm 9)) (rsAsg (rCall sp__law_trim (rCons (rBin addD (rBin addD (rBlt listD (rCons (rSl (rVar 7) rNone (rSome (rVar 9))) rNil)) (rBin mulD (rLst (rCons (rTup (rCons (rC (Dt.int 0)) (rCons (rC (Dt.int 1)) rNil))) rNil)) (rBlt max2D (rCons (rC (Dt.int 0)) (rCons (rBin subD (rVar 9) (rBlt lenD (rCons (rVar 7) rNil))) rNil))))) (rLc (wSeq (rSl (rVar 6) (rSome (rVar 9)) rNone)) (Tg.nm 11) rYes (rCall sp__law_minus (rCons (rVar 11) rNil)) [11])) rNil)) (Tg.nm 7))) rsNext) v_law))
def t_law : RS := rsSeq (rsAsg (rCall sp__law_own_bag (rCons (rVar 0) rNil)) (Tg.nm 1)) (rsSeq (rsAsg (rBin eqD (rCall sp__law_draw (rCons (rVar 1) (rCons (rC (Dt.int 2)) rNil))) (rC (Dt.int 0))) (Tg.nm 2)) (rsSeq (rsFor (wRng1 (rCons (rC (Dt.int 2)) rNil)) (Tg.nm 3) tb_law) (rsRet (rC (Dt.bl true)))))
theorem BP.d0 {n : Nat} {p : List Rat} (h : BP 12 6 n p) : BP D0 M0 n p := (h.up (E := 5000000)).mono (by decide) (Nat.le_refl _)
theorem cut_frs {q : List Rat} {lo hi : Option Int} : ∃ r : List Rat, cutD (q.map fr) lo hi = r.map fr ∧ (∀ x ∈ r, x ∈ q) := by
  unfold cutD
  refine ⟨(q.drop (HT.sIx q.length 0 lo)).take (HT.sIx q.length q.length hi - HT.sIx q.length 0 lo), ?_, fun x hx => List.mem_of_mem_drop (List.mem_of_mem_take hx)⟩
  rw [List.length_map, List.map_take, List.map_drop]
theorem cut_len1 {xs : List Dt} {k : Nat} : (cutD xs none (some (k : Int))).length = min k xs.length := by
  unfold cutD
  rw [HT.sIx_nat, HT.sIx_none, List.length_take, List.length_drop]; omega
theorem cut_len2 {xs : List Dt} {k : Nat} : (cutD xs (some (k : Int)) none).length = xs.length - min k xs.length := by
  unfold cutD
  rw [HT.sIx_nat, HT.sIx_none, List.length_take, List.length_drop]; omega
theorem lpoly_of {S : Sto} {Q : QD} {R : XD → Sto → Prop} {a b : Addr} {n : Int} (hB : BagAt S a b) (h0 : 0 ≤ n) (h1 : n ≤ 100) (h : ∀ p S', BP 12 6 n.toNat p → BagAt S' a b → Keep a b S S' → Q (pl p) S') : sp__law_poly [.ref a, .int n] S Q R := ⟨a, b, n, rfl, ⟨hB, h0, h1⟩, h⟩
theorem two_of {S : Sto} {Q : QD} {R : XD → Sto → Prop} {a b : Addr} {p q : List Rat} {n : Bool} (hB : BagAt S a b) (hp : BP D0 M0 7 p) (hq : BP D0 M0 7 q) (h : ∀ S', BagAt S' a b → Keep a b S S' → Q (.bl true) S') : sp__law_are_two_right [.ref a, pl p, pl q, .bl n] S Q R := ⟨a, b, p, q, n, rfl, ⟨hB, hp, hq⟩, h⟩
theorem judged_of {S : Sto} {Q : QD} {R : XD → Sto → Prop} {a b : Addr} {p : List Rat} {n : Bool} (hB : BagAt S a b) (hp : BP D0 M0 7 p) (h : ∀ S', BagAt S' a b → Keep a b S S' → Q (.bl true) S') : sp__law_are_judged [.ref a, pl p, .bl n] S Q R := ⟨a, b, p, n, rfl, ⟨hB, hp⟩, h⟩
theorem three_of {S : Sto} {Q : QD} {R : XD → Sto → Prop} {p q r : List Rat} {n : Bool} (hp : BP D0 M0 7 p) (hq : BP D0 M0 7 q) (hr : BP D0 M0 7 r) (h : Q (.bl true) S) : sp__law_are_three_right [pl p, pl q, pl r, .bl n] S Q R := ⟨p, q, r, n, rfl, ⟨hp, hq, hr⟩, h⟩
theorem three_ni {p q r : List Rat} (hp : BP D0 M0 7 p) (hq : BP D0 M0 7 q) (hr : BP D0 M0 7 r) : ∃ d, ∀ (S : Sto) (T : Addr), lstOf S T = some [pl p, pl q, pl r] → Ni S 60 8000 (.ref T) d := by
  have s0 : Sm D0 M0 := ⟨by decide, by decide +kernel, by decide +kernel⟩
  refine ⟨.list [ppl p, ppl q, ppl r], fun S T e => ?_⟩
  have l1 := hp.ln
  have l2 := hq.ln
  have l3 := hr.ln
  have x : NiL S 2 2000 [pl p, pl q, pl r] [ppl p, ppl q, ppl r] := (NiL.cons (Ni.pl (hp.sz s0)) (.cons (Ni.pl (hq.sz s0)) (.cons (Ni.pl (hr.sz s0)) .nil))).mono (Nat.le_refl _) (by omega)
  exact (Ni.lst e x).mono (by omega) (by omega)
theorem loop_u {D : EndsD} {S : Sto} {a b : Addr} {p q r : List Rat} {n : Bool} {x0 x3 x4 x5 x9 x10 x11 : Option Dt} (hB : BagAt S a b) (hp : BP D0 M0 7 p) (hq : BP D0 M0 7 q) (hr : BP D0 M0 7 r)
    (hD : ∀ S' x5, BagAt S' a b → D.nx [x0, some (.ref a), some (.bl (!n)), x3, x4, x5, some (pl p), some (pl q), some (pl r), x9, x10, x11] S') :
    u_law D [x0, some (.ref a), some (.bl n), x3, x4, x5, some (pl p), some (pl q), some (pl r), x9, x10, x11] S := by
  have s0 : Sm D0 M0 := ⟨by decide, by decide +kernel, by decide +kernel⟩
  obtain ⟨d, hd⟩ := three_ni hp hq hr
  unfold u_law
  rw [seq_step]; simp only [rsFor, rLc, wipeD, rsNext, rsDrop, rsRet, rsRetN, rsIf, rsAsg, rsPar, rsPar3, rsAug, rsSet, rsBreak, rsCont, rVar, rC, rBin, rTru, rTest, rChain, rNeg, rNot, rAnd, rOr, rIf, rAndV, rOrV, rNotV, rNil, rCons, rTup, rLst, rNone, rSome, rSl, rCall, rCallK, rBlt, rLRev, rMeth, rMeth0, rYes, wSeq, wEnum, wRev, wRng1, wRng2, addD_int, addD_tup, addD_str, addD_ref, subD_int, mulD_int, mulD_ref, mulD_tup, fdivD_int, modD_int, powD_int, cmpD_int, isD_non, isnD_non, iaddD_int, isNon_non, isNon_int, isNon_str, isNon_tup, isNon_fr, isNon_bl, eqD_int, neD_int, absD_int, intD_int, intD_bl, lenD_tup, lenD_ref, lenD_pl, listD_pl, tupleD_pl, seqW_pl, enumW_pl, revW_pl, slD_pl, isNon_pl, addD_pl, listD_tup, listD_ref, tupleD_tup, tupleD_ref, max2D_int, min2D_int, truD_int, truD_bl, truD_tup, truD_non, seqW_tup, seqW_ref, enumW_tup, enumW_ref, revW_tup, revW_ref, rngW1_int, rngW2_int, slD_tup, slD_ref, slD_frl, popD_ref, appendD_ref, extendD_ref, setD_ref, bindG_nm, bindG_tup, bindGs_nil, bindGs_cons, ixD_ref, startD, List.map_cons, List.map_nil, List.length_cons, List.length_nil, List.cons_append, List.nil_append, List.getElem?_cons_zero, List.getElem?_cons_succ, List.set_cons_zero, List.set_cons_succ, Option.some.injEq, exists_eq_left', exists_eq_left, Option.bind_some, Nat.reduceAdd, Nat.reduceSub, List.replicate_succ, List.replicate_zero, Dt.bl.injEq, Dt.int.injEq, decide_eq_true_eq, decide_eq_false_iff_not, Bool.false_eq_true, Bool.true_eq_false, if_true, if_false, Bool.not_eq_true', Bool.not_true, Bool.not_false, bne_iff_ne, ne_eq, ixD_fr0, ixD_fr1, ixD_pair0, ixD_pair1, Dt.ref.injEq, List.cons.injEq, and_true, true_and, reduceIte, exists_eq, Nat.zero_add, Dt.tup.injEq, and_self, and_assoc, exists_and_left, fr_inj, pl_inj, ite_true, ite_false]
  refine ⟨by decide, fun A hA => reprD_of ((hd _ A lst_same).repr (by decide) (by decide)) ?_⟩
  have B1 := hB.new (o := .lst [pl p, pl q, pl r]) hA
  generalize put S A (.lst [pl p, pl q, pl r]) = S1 at B1 ⊢
  rw [seq_step]; simp only [rsFor, rLc, wipeD, rsNext, rsDrop, rsRet, rsRetN, rsIf, rsAsg, rsPar, rsPar3, rsAug, rsSet, rsBreak, rsCont, rVar, rC, rBin, rTru, rTest, rChain, rNeg, rNot, rAnd, rOr, rIf, rAndV, rOrV, rNotV, rNil, rCons, rTup, rLst, rNone, rSome, rSl, rCall, rCallK, rBlt, rLRev, rMeth, rMeth0, rYes, wSeq, wEnum, wRev, wRng1, wRng2, addD_int, addD_tup, addD_str, addD_ref, subD_int, mulD_int, mulD_ref, mulD_tup, fdivD_int, modD_int, powD_int, cmpD_int, isD_non, isnD_non, iaddD_int, isNon_non, isNon_int, isNon_str, isNon_tup, isNon_fr, isNon_bl, eqD_int, neD_int, absD_int, intD_int, intD_bl, lenD_tup, lenD_ref, lenD_pl, listD_pl, tupleD_pl, seqW_pl, enumW_pl, revW_pl, slD_pl, isNon_pl, addD_pl, listD_tup, listD_ref, tupleD_tup, tupleD_ref, max2D_int, min2D_int, truD_int, truD_bl, truD_tup, truD_non, seqW_tup, seqW_ref, enumW_tup, enumW_ref, revW_tup, revW_ref, rngW1_int, rngW2_int, slD_tup, slD_ref, slD_frl, popD_ref, appendD_ref, extendD_ref, setD_ref, bindG_nm, bindG_tup, bindGs_nil, bindGs_cons, ixD_ref, startD, List.map_cons, List.map_nil, List.length_cons, List.length_nil, List.cons_append, List.nil_append, List.getElem?_cons_zero, List.getElem?_cons_succ, List.set_cons_zero, List.set_cons_succ, Option.some.injEq, exists_eq_left', exists_eq_left, Option.bind_some, Nat.reduceAdd, Nat.reduceSub, List.replicate_succ, List.replicate_zero, Dt.bl.injEq, Dt.int.injEq, decide_eq_true_eq, decide_eq_false_iff_not, Bool.false_eq_true, Bool.true_eq_false, if_true, if_false, Bool.not_eq_true', Bool.not_true, Bool.not_false, bne_iff_ne, ne_eq, ixD_fr0, ixD_fr1, ixD_pair0, ixD_pair1, Dt.ref.injEq, List.cons.injEq, and_true, true_and, reduceIte, exists_eq, Nat.zero_add, Dt.tup.injEq, and_self, and_assoc, exists_and_left, fr_inj, pl_inj, ite_true, ite_false]
  refine judged_of B1 hp fun S2 B2 K2 => ?_
  try simp only [rsFor, rLc, wipeD, rsNext, rsDrop, rsRet, rsRetN, rsIf, rsAsg, rsPar, rsPar3, rsAug, rsSet, rsBreak, rsCont, rVar, rC, rBin, rTru, rTest, rChain, rNeg, rNot, rAnd, rOr, rIf, rAndV, rOrV, rNotV, rNil, rCons, rTup, rLst, rNone, rSome, rSl, rCall, rCallK, rBlt, rLRev, rMeth, rMeth0, rYes, wSeq, wEnum, wRev, wRng1, wRng2, addD_int, addD_tup, addD_str, addD_ref, subD_int, mulD_int, mulD_ref, mulD_tup, fdivD_int, modD_int, powD_int, cmpD_int, isD_non, isnD_non, iaddD_int, isNon_non, isNon_int, isNon_str, isNon_tup, isNon_fr, isNon_bl, eqD_int, neD_int, absD_int, intD_int, intD_bl, lenD_tup, lenD_ref, lenD_pl, listD_pl, tupleD_pl, seqW_pl, enumW_pl, revW_pl, slD_pl, isNon_pl, addD_pl, listD_tup, listD_ref, tupleD_tup, tupleD_ref, max2D_int, min2D_int, truD_int, truD_bl, truD_tup, truD_non, seqW_tup, seqW_ref, enumW_tup, enumW_ref, revW_tup, revW_ref, rngW1_int, rngW2_int, slD_tup, slD_ref, slD_frl, popD_ref, appendD_ref, extendD_ref, setD_ref, bindG_nm, bindG_tup, bindGs_nil, bindGs_cons, ixD_ref, startD, List.map_cons, List.map_nil, List.length_cons, List.length_nil, List.cons_append, List.nil_append, List.getElem?_cons_zero, List.getElem?_cons_succ, List.set_cons_zero, List.set_cons_succ, Option.some.injEq, exists_eq_left', exists_eq_left, Option.bind_some, Nat.reduceAdd, Nat.reduceSub, List.replicate_succ, List.replicate_zero, Dt.bl.injEq, Dt.int.injEq, decide_eq_true_eq, decide_eq_false_iff_not, Bool.false_eq_true, Bool.true_eq_false, if_true, if_false, Bool.not_eq_true', Bool.not_true, Bool.not_false, bne_iff_ne, ne_eq, ixD_fr0, ixD_fr1, ixD_pair0, ixD_pair1, Dt.ref.injEq, List.cons.injEq, and_true, true_and, reduceIte, exists_eq, Nat.zero_add, Dt.tup.injEq, and_self, and_assoc, exists_and_left, fr_inj, pl_inj, ite_true, ite_false]
  refine two_of B2 hp hq fun S3 B3 K3 => ?_
  rw [seq_step]; simp only [rsFor, rLc, wipeD, rsNext, rsDrop, rsRet, rsRetN, rsIf, rsAsg, rsPar, rsPar3, rsAug, rsSet, rsBreak, rsCont, rVar, rC, rBin, rTru, rTest, rChain, rNeg, rNot, rAnd, rOr, rIf, rAndV, rOrV, rNotV, rNil, rCons, rTup, rLst, rNone, rSome, rSl, rCall, rCallK, rBlt, rLRev, rMeth, rMeth0, rYes, wSeq, wEnum, wRev, wRng1, wRng2, addD_int, addD_tup, addD_str, addD_ref, subD_int, mulD_int, mulD_ref, mulD_tup, fdivD_int, modD_int, powD_int, cmpD_int, isD_non, isnD_non, iaddD_int, isNon_non, isNon_int, isNon_str, isNon_tup, isNon_fr, isNon_bl, eqD_int, neD_int, absD_int, intD_int, intD_bl, lenD_tup, lenD_ref, lenD_pl, listD_pl, tupleD_pl, seqW_pl, enumW_pl, revW_pl, slD_pl, isNon_pl, addD_pl, listD_tup, listD_ref, tupleD_tup, tupleD_ref, max2D_int, min2D_int, truD_int, truD_bl, truD_tup, truD_non, seqW_tup, seqW_ref, enumW_tup, enumW_ref, revW_tup, revW_ref, rngW1_int, rngW2_int, slD_tup, slD_ref, slD_frl, popD_ref, appendD_ref, extendD_ref, setD_ref, bindG_nm, bindG_tup, bindGs_nil, bindGs_cons, ixD_ref, startD, List.map_cons, List.map_nil, List.length_cons, List.length_nil, List.cons_append, List.nil_append, List.getElem?_cons_zero, List.getElem?_cons_succ, List.set_cons_zero, List.set_cons_succ, Option.some.injEq, exists_eq_left', exists_eq_left, Option.bind_some, Nat.reduceAdd, Nat.reduceSub, List.replicate_succ, List.replicate_zero, Dt.bl.injEq, Dt.int.injEq, decide_eq_true_eq, decide_eq_false_iff_not, Bool.false_eq_true, Bool.true_eq_false, if_true, if_false, Bool.not_eq_true', Bool.not_true, Bool.not_false, bne_iff_ne, ne_eq, ixD_fr0, ixD_fr1, ixD_pair0, ixD_pair1, Dt.ref.injEq, List.cons.injEq, and_true, true_and, reduceIte, exists_eq, Nat.zero_add, Dt.tup.injEq, and_self, and_assoc, exists_and_left, fr_inj, pl_inj, ite_true, ite_false]
  have w1 : W 1 1 (-1 : Rat) := by
    have h := W.int (D := 1) (M := 1) (i := -1) (by decide)
    have e1 : ((-1 : Int) : Rat) = -1 := by exact_mod_cast rfl
    rw [e1] at h; exact h
  have bm : BP D0 M0 7 (pScale (-1) p) := BP.scale w1 hp
  have by1 : ByPre (-1) p := ⟨w1.sz (k := 1900) (by decide) (by decide +kernel) (by decide +kernel), hp.sz s0, by have := hp.ln; omega⟩
  refine ⟨by decide, ?_⟩
  show sp__law_poly_scaled [fr (-1), pl p] _ _ _
  refine lscale_of by1 (two_of B3 hp bm fun S4 B4 K4 => ⟨true, rfl, ?_⟩)
  rw [if_neg (by decide)]
  rw [seq_step]; simp only [rsFor, rLc, wipeD, rsNext, rsDrop, rsRet, rsRetN, rsIf, rsAsg, rsPar, rsPar3, rsAug, rsSet, rsBreak, rsCont, rVar, rC, rBin, rTru, rTest, rChain, rNeg, rNot, rAnd, rOr, rIf, rAndV, rOrV, rNotV, rNil, rCons, rTup, rLst, rNone, rSome, rSl, rCall, rCallK, rBlt, rLRev, rMeth, rMeth0, rYes, wSeq, wEnum, wRev, wRng1, wRng2, addD_int, addD_tup, addD_str, addD_ref, subD_int, mulD_int, mulD_ref, mulD_tup, fdivD_int, modD_int, powD_int, cmpD_int, isD_non, isnD_non, iaddD_int, isNon_non, isNon_int, isNon_str, isNon_tup, isNon_fr, isNon_bl, eqD_int, neD_int, absD_int, intD_int, intD_bl, lenD_tup, lenD_ref, lenD_pl, listD_pl, tupleD_pl, seqW_pl, enumW_pl, revW_pl, slD_pl, isNon_pl, addD_pl, listD_tup, listD_ref, tupleD_tup, tupleD_ref, max2D_int, min2D_int, truD_int, truD_bl, truD_tup, truD_non, seqW_tup, seqW_ref, enumW_tup, enumW_ref, revW_tup, revW_ref, rngW1_int, rngW2_int, slD_tup, slD_ref, slD_frl, popD_ref, appendD_ref, extendD_ref, setD_ref, bindG_nm, bindG_tup, bindGs_nil, bindGs_cons, ixD_ref, startD, List.map_cons, List.map_nil, List.length_cons, List.length_nil, List.cons_append, List.nil_append, List.getElem?_cons_zero, List.getElem?_cons_succ, List.set_cons_zero, List.set_cons_succ, Option.some.injEq, exists_eq_left', exists_eq_left, Option.bind_some, Nat.reduceAdd, Nat.reduceSub, List.replicate_succ, List.replicate_zero, Dt.bl.injEq, Dt.int.injEq, decide_eq_true_eq, decide_eq_false_iff_not, Bool.false_eq_true, Bool.true_eq_false, if_true, if_false, Bool.not_eq_true', Bool.not_true, Bool.not_false, bne_iff_ne, ne_eq, ixD_fr0, ixD_fr1, ixD_pair0, ixD_pair1, Dt.ref.injEq, List.cons.injEq, and_true, true_and, reduceIte, exists_eq, Nat.zero_add, Dt.tup.injEq, and_self, and_assoc, exists_and_left, fr_inj, pl_inj, ite_true, ite_false]
  refine three_of hp hq hr ?_
  try simp only [rsFor, rLc, wipeD, rsNext, rsDrop, rsRet, rsRetN, rsIf, rsAsg, rsPar, rsPar3, rsAug, rsSet, rsBreak, rsCont, rVar, rC, rBin, rTru, rTest, rChain, rNeg, rNot, rAnd, rOr, rIf, rAndV, rOrV, rNotV, rNil, rCons, rTup, rLst, rNone, rSome, rSl, rCall, rCallK, rBlt, rLRev, rMeth, rMeth0, rYes, wSeq, wEnum, wRev, wRng1, wRng2, addD_int, addD_tup, addD_str, addD_ref, subD_int, mulD_int, mulD_ref, mulD_tup, fdivD_int, modD_int, powD_int, cmpD_int, isD_non, isnD_non, iaddD_int, isNon_non, isNon_int, isNon_str, isNon_tup, isNon_fr, isNon_bl, eqD_int, neD_int, absD_int, intD_int, intD_bl, lenD_tup, lenD_ref, lenD_pl, listD_pl, tupleD_pl, seqW_pl, enumW_pl, revW_pl, slD_pl, isNon_pl, addD_pl, listD_tup, listD_ref, tupleD_tup, tupleD_ref, max2D_int, min2D_int, truD_int, truD_bl, truD_tup, truD_non, seqW_tup, seqW_ref, enumW_tup, enumW_ref, revW_tup, revW_ref, rngW1_int, rngW2_int, slD_tup, slD_ref, slD_frl, popD_ref, appendD_ref, extendD_ref, setD_ref, bindG_nm, bindG_tup, bindGs_nil, bindGs_cons, ixD_ref, startD, List.map_cons, List.map_nil, List.length_cons, List.length_nil, List.cons_append, List.nil_append, List.getElem?_cons_zero, List.getElem?_cons_succ, List.set_cons_zero, List.set_cons_succ, Option.some.injEq, exists_eq_left', exists_eq_left, Option.bind_some, Nat.reduceAdd, Nat.reduceSub, List.replicate_succ, List.replicate_zero, Dt.bl.injEq, Dt.int.injEq, decide_eq_true_eq, decide_eq_false_iff_not, Bool.false_eq_true, Bool.true_eq_false, if_true, if_false, Bool.not_eq_true', Bool.not_true, Bool.not_false, bne_iff_ne, ne_eq, ixD_fr0, ixD_fr1, ixD_pair0, ixD_pair1, Dt.ref.injEq, List.cons.injEq, and_true, true_and, reduceIte, exists_eq, Nat.zero_add, Dt.tup.injEq, and_self, and_assoc, exists_and_left, fr_inj, pl_inj, ite_true, ite_false]
  refine ⟨by decide, fun A hA => reprD_of ((hd _ A lst_same).repr (by decide) (by decide)) ?_⟩
  have B5 := B4.new (o := .lst [pl p, pl q, pl r]) hA
  simp only [rsFor, rLc, wipeD, rsNext, rsDrop, rsRet, rsRetN, rsIf, rsAsg, rsPar, rsPar3, rsAug, rsSet, rsBreak, rsCont, rVar, rC, rBin, rTru, rTest, rChain, rNeg, rNot, rAnd, rOr, rIf, rAndV, rOrV, rNotV, rNil, rCons, rTup, rLst, rNone, rSome, rSl, rCall, rCallK, rBlt, rLRev, rMeth, rMeth0, rYes, wSeq, wEnum, wRev, wRng1, wRng2, addD_int, addD_tup, addD_str, addD_ref, subD_int, mulD_int, mulD_ref, mulD_tup, fdivD_int, modD_int, powD_int, cmpD_int, isD_non, isnD_non, iaddD_int, isNon_non, isNon_int, isNon_str, isNon_tup, isNon_fr, isNon_bl, eqD_int, neD_int, absD_int, intD_int, intD_bl, lenD_tup, lenD_ref, lenD_pl, listD_pl, tupleD_pl, seqW_pl, enumW_pl, revW_pl, slD_pl, isNon_pl, addD_pl, listD_tup, listD_ref, tupleD_tup, tupleD_ref, max2D_int, min2D_int, truD_int, truD_bl, truD_tup, truD_non, seqW_tup, seqW_ref, enumW_tup, enumW_ref, revW_tup, revW_ref, rngW1_int, rngW2_int, slD_tup, slD_ref, slD_frl, popD_ref, appendD_ref, extendD_ref, setD_ref, bindG_nm, bindG_tup, bindGs_nil, bindGs_cons, ixD_ref, startD, List.map_cons, List.map_nil, List.length_cons, List.length_nil, List.cons_append, List.nil_append, List.getElem?_cons_zero, List.getElem?_cons_succ, List.set_cons_zero, List.set_cons_succ, Option.some.injEq, exists_eq_left', exists_eq_left, Option.bind_some, Nat.reduceAdd, Nat.reduceSub, List.replicate_succ, List.replicate_zero, Dt.bl.injEq, Dt.int.injEq, decide_eq_true_eq, decide_eq_false_iff_not, Bool.false_eq_true, Bool.true_eq_false, if_true, if_false, Bool.not_eq_true', Bool.not_true, Bool.not_false, bne_iff_ne, ne_eq, ixD_fr0, ixD_fr1, ixD_pair0, ixD_pair1, Dt.ref.injEq, List.cons.injEq, and_true, true_and, reduceIte, exists_eq, Nat.zero_add, Dt.tup.injEq, and_self, and_assoc, exists_and_left, fr_inj, pl_inj, ite_true, ite_false, neD_str]
  exact hD _ _ B5
theorem trim_of {S : Sto} {Q : QD} {R : XD → Sto → Prop} {A : Addr} {p : List Rat} (h : lstOf S A = some (p.map fr)) (k : Q (pl (trim p)) S) : sp__law_trim [.ref A] S Q R := ⟨.ref A, p, rfl, .inr ⟨A, rfl, h⟩, k⟩
theorem loop_v {D : EndsD} {S : Sto} {a b : Addr} {p q r : List Rat} {n : Bool} {w : Int} {x0 x3 x5 x9 x10 x11 : Option Dt} (hB : BagAt S a b) (hp : BP D0 M0 7 p) (hq : BP D0 M0 7 q) (hr : BP D0 M0 7 r)
    (hD : ∀ S' n x5 p q r, BagAt S' a b → D.nx [x0, some (.ref a), some (.bl n), x3, some (.int w), x5, some (pl p), some (pl q), some (pl r), x9, x10, x11] S') :
    v_law D [x0, some (.ref a), some (.bl n), x3, some (.int w), x5, some (pl p), some (pl q), some (pl r), x9, x10, x11] S := by
  unfold v_law
  rw [seq_step]; simp only [rsFor, rLc, wipeD, rsNext, rsDrop, rsRet, rsRetN, rsIf, rsAsg, rsPar, rsPar3, rsAug, rsSet, rsBreak, rsCont, rVar, rC, rBin, rTru, rTest, rChain, rNeg, rNot, rAnd, rOr, rIf, rAndV, rOrV, rNotV, rNil, rCons, rTup, rLst, rNone, rSome, rSl, rCall, rCallK, rBlt, rLRev, rMeth, rMeth0, rYes, wSeq, wEnum, wRev, wRng1, wRng2, addD_int, addD_tup, addD_str, addD_ref, subD_int, mulD_int, mulD_ref, mulD_tup, fdivD_int, modD_int, powD_int, cmpD_int, isD_non, isnD_non, iaddD_int, isNon_non, isNon_int, isNon_str, isNon_tup, isNon_fr, isNon_bl, eqD_int, neD_int, absD_int, intD_int, intD_bl, lenD_tup, lenD_ref, lenD_pl, listD_pl, tupleD_pl, seqW_pl, enumW_pl, revW_pl, slD_pl, isNon_pl, addD_pl, listD_tup, listD_ref, tupleD_tup, tupleD_ref, max2D_int, min2D_int, truD_int, truD_bl, truD_tup, truD_non, seqW_tup, seqW_ref, enumW_tup, enumW_ref, revW_tup, revW_ref, rngW1_int, rngW2_int, slD_tup, slD_ref, slD_frl, popD_ref, appendD_ref, extendD_ref, setD_ref, bindG_nm, bindG_tup, bindGs_nil, bindGs_cons, ixD_ref, startD, List.map_cons, List.map_nil, List.length_cons, List.length_nil, List.cons_append, List.nil_append, List.getElem?_cons_zero, List.getElem?_cons_succ, List.set_cons_zero, List.set_cons_succ, Option.some.injEq, exists_eq_left', exists_eq_left, Option.bind_some, Nat.reduceAdd, Nat.reduceSub, List.replicate_succ, List.replicate_zero, Dt.bl.injEq, Dt.int.injEq, decide_eq_true_eq, decide_eq_false_iff_not, Bool.false_eq_true, Bool.true_eq_false, if_true, if_false, Bool.not_eq_true', Bool.not_true, Bool.not_false, bne_iff_ne, ne_eq, ixD_fr0, ixD_fr1, ixD_pair0, ixD_pair1, Dt.ref.injEq, List.cons.injEq, and_true, true_and, reduceIte, exists_eq, Nat.zero_add, Dt.tup.injEq, and_self, and_assoc, exists_and_left, fr_inj, pl_inj, ite_true, ite_false]
  split
  · refine draw_of hB (by decide) (by decide) fun m S1 m0 m1 B1 K1 => ?_
    simp only [rsFor, rLc, wipeD, rsNext, rsDrop, rsRet, rsRetN, rsIf, rsAsg, rsPar, rsPar3, rsAug, rsSet, rsBreak, rsCont, rVar, rC, rBin, rTru, rTest, rChain, rNeg, rNot, rAnd, rOr, rIf, rAndV, rOrV, rNotV, rNil, rCons, rTup, rLst, rNone, rSome, rSl, rCall, rCallK, rBlt, rLRev, rMeth, rMeth0, rYes, wSeq, wEnum, wRev, wRng1, wRng2, addD_int, addD_tup, addD_str, addD_ref, subD_int, mulD_int, mulD_ref, mulD_tup, fdivD_int, modD_int, powD_int, cmpD_int, isD_non, isnD_non, iaddD_int, isNon_non, isNon_int, isNon_str, isNon_tup, isNon_fr, isNon_bl, eqD_int, neD_int, absD_int, intD_int, intD_bl, lenD_tup, lenD_ref, lenD_pl, listD_pl, tupleD_pl, seqW_pl, enumW_pl, revW_pl, slD_pl, isNon_pl, addD_pl, listD_tup, listD_ref, tupleD_tup, tupleD_ref, max2D_int, min2D_int, truD_int, truD_bl, truD_tup, truD_non, seqW_tup, seqW_ref, enumW_tup, enumW_ref, revW_tup, revW_ref, rngW1_int, rngW2_int, slD_tup, slD_ref, slD_frl, popD_ref, appendD_ref, extendD_ref, setD_ref, bindG_nm, bindG_tup, bindGs_nil, bindGs_cons, ixD_ref, startD, List.map_cons, List.map_nil, List.length_cons, List.length_nil, List.cons_append, List.nil_append, List.getElem?_cons_zero, List.getElem?_cons_succ, List.set_cons_zero, List.set_cons_succ, Option.some.injEq, exists_eq_left', exists_eq_left, Option.bind_some, Nat.reduceAdd, Nat.reduceSub, List.replicate_succ, List.replicate_zero, Dt.bl.injEq, Dt.int.injEq, decide_eq_true_eq, decide_eq_false_iff_not, Bool.false_eq_true, Bool.true_eq_false, if_true, if_false, Bool.not_eq_true', Bool.not_true, Bool.not_false, bne_iff_ne, ne_eq, ixD_fr0, ixD_fr1, ixD_pair0, ixD_pair1, Dt.ref.injEq, List.cons.injEq, and_true, true_and, reduceIte, exists_eq, Nat.zero_add, Dt.tup.injEq, and_self, and_assoc, exists_and_left, fr_inj, pl_inj, ite_true, ite_false]
    refine ⟨by unfold smallI; omega, fun P hP => ?_⟩
    have hl : (rngD 0 m).length = m.toNat := by unfold rngD; simp
    refine lc_draw (V := W D0 M0) (S0 := S1) hP B1 (fun d S' Q' B' K' h => ?_) m.toNat (by omega) (rngD 0 m) [] _ (by rw [hl]; simp) (fun q hq => by cases hq) (B1.new hP) (.new hP) put_same (fun f S' hf hV B' K' e => ?_)
    · simp only [rsFor, rLc, wipeD, rsNext, rsDrop, rsRet, rsRetN, rsIf, rsAsg, rsPar, rsPar3, rsAug, rsSet, rsBreak, rsCont, rVar, rC, rBin, rTru, rTest, rChain, rNeg, rNot, rAnd, rOr, rIf, rAndV, rOrV, rNotV, rNil, rCons, rTup, rLst, rNone, rSome, rSl, rCall, rCallK, rBlt, rLRev, rMeth, rMeth0, rYes, wSeq, wEnum, wRev, wRng1, wRng2, addD_int, addD_tup, addD_str, addD_ref, subD_int, mulD_int, mulD_ref, mulD_tup, fdivD_int, modD_int, powD_int, cmpD_int, isD_non, isnD_non, iaddD_int, isNon_non, isNon_int, isNon_str, isNon_tup, isNon_fr, isNon_bl, eqD_int, neD_int, absD_int, intD_int, intD_bl, lenD_tup, lenD_ref, lenD_pl, listD_pl, tupleD_pl, seqW_pl, enumW_pl, revW_pl, slD_pl, isNon_pl, addD_pl, listD_tup, listD_ref, tupleD_tup, tupleD_ref, max2D_int, min2D_int, truD_int, truD_bl, truD_tup, truD_non, seqW_tup, seqW_ref, enumW_tup, enumW_ref, revW_tup, revW_ref, rngW1_int, rngW2_int, slD_tup, slD_ref, slD_frl, popD_ref, appendD_ref, extendD_ref, setD_ref, bindG_nm, bindG_tup, bindGs_nil, bindGs_cons, ixD_ref, startD, List.map_cons, List.map_nil, List.length_cons, List.length_nil, List.cons_append, List.nil_append, List.getElem?_cons_zero, List.getElem?_cons_succ, List.set_cons_zero, List.set_cons_succ, Option.some.injEq, exists_eq_left', exists_eq_left, Option.bind_some, Nat.reduceAdd, Nat.reduceSub, List.replicate_succ, List.replicate_zero, Dt.bl.injEq, Dt.int.injEq, decide_eq_true_eq, decide_eq_false_iff_not, Bool.false_eq_true, Bool.true_eq_false, if_true, if_false, Bool.not_eq_true', Bool.not_true, Bool.not_false, bne_iff_ne, ne_eq, ixD_fr0, ixD_fr1, ixD_pair0, ixD_pair1, Dt.ref.injEq, List.cons.injEq, and_true, true_and, reduceIte, exists_eq, Nat.zero_add, Dt.tup.injEq, and_self, and_assoc, exists_and_left, fr_inj, pl_inj, ite_true, ite_false]
      exact fraction_of B' h
    · refine trim_of (lst_of e) ?_
      have bf : BP D0 M0 7 (trim f) := ⟨trim_trim _, Nat.le_trans (trim_len _) (by omega), WL.trim hV⟩
      exact loop_u B' bf hq hr fun S' x5 B => hD _ _ _ _ _ _ B
  · exact loop_u hB hp hq hr fun S' x5 B => hD _ _ _ _ _ _ B
def ngD : Dt → Dt
  | .tup [.int a, .int b] => fr (-(Rat.divInt a b))
  | d => d
theorem ng_fr {q : Rat} : ngD (fr q) = fr (-q) := by
  show fr (-(Rat.divInt q.num (q.den : Int))) = _
  rw [Rat.num_divInt_den]
theorem ng_frs {p : List Rat} : (p.map fr).map ngD = (p.map fun x => -x).map fr := by
  simp only [List.map_map]
  exact List.map_congr_left fun q _ => ng_fr
theorem loop_tb {D : EndsD} {S : Sto} {a b : Addr} {n : Bool} {x0 x3 x4 x5 x6 x7 x8 x9 x10 x11 : Option Dt} (hB : BagAt S a b)
    (hD : ∀ S' n x4 x5 x6 x7 x8 x9, BagAt S' a b → D.nx [x0, some (.ref a), some (.bl n), x3, x4, x5, x6, x7, x8, x9, x10, x11] S') :
    tb_law D [x0, some (.ref a), some (.bl n), x3, x4, x5, x6, x7, x8, x9, x10, x11] S := by
  unfold tb_law
  rw [seq_step]; simp only [rsFor, rLc, wipeD, rsNext, rsDrop, rsRet, rsRetN, rsIf, rsAsg, rsPar, rsPar3, rsAug, rsSet, rsBreak, rsCont, rVar, rC, rBin, rTru, rTest, rChain, rNeg, rNot, rAnd, rOr, rIf, rAndV, rOrV, rNotV, rNil, rCons, rTup, rLst, rNone, rSome, rSl, rCall, rCallK, rBlt, rLRev, rMeth, rMeth0, rYes, wSeq, wEnum, wRev, wRng1, wRng2, addD_int, addD_tup, addD_str, addD_ref, subD_int, mulD_int, mulD_ref, mulD_tup, fdivD_int, modD_int, powD_int, cmpD_int, isD_non, isnD_non, iaddD_int, isNon_non, isNon_int, isNon_str, isNon_tup, isNon_fr, isNon_bl, eqD_int, neD_int, absD_int, intD_int, intD_bl, lenD_tup, lenD_ref, lenD_pl, listD_pl, tupleD_pl, seqW_pl, enumW_pl, revW_pl, slD_pl, isNon_pl, addD_pl, listD_tup, listD_ref, tupleD_tup, tupleD_ref, max2D_int, min2D_int, truD_int, truD_bl, truD_tup, truD_non, seqW_tup, seqW_ref, enumW_tup, enumW_ref, revW_tup, revW_ref, rngW1_int, rngW2_int, slD_tup, slD_ref, slD_frl, popD_ref, appendD_ref, extendD_ref, setD_ref, bindG_nm, bindG_tup, bindGs_nil, bindGs_cons, ixD_ref, startD, List.map_cons, List.map_nil, List.length_cons, List.length_nil, List.cons_append, List.nil_append, List.getElem?_cons_zero, List.getElem?_cons_succ, List.set_cons_zero, List.set_cons_succ, Option.some.injEq, exists_eq_left', exists_eq_left, Option.bind_some, Nat.reduceAdd, Nat.reduceSub, List.replicate_succ, List.replicate_zero, Dt.bl.injEq, Dt.int.injEq, decide_eq_true_eq, decide_eq_false_iff_not, Bool.false_eq_true, Bool.true_eq_false, if_true, if_false, Bool.not_eq_true', Bool.not_true, Bool.not_false, bne_iff_ne, ne_eq, ixD_fr0, ixD_fr1, ixD_pair0, ixD_pair1, Dt.ref.injEq, List.cons.injEq, and_true, true_and, reduceIte, exists_eq, Nat.zero_add, Dt.tup.injEq, and_self, and_assoc, exists_and_left, fr_inj, pl_inj, ite_true, ite_false]
  refine lpoly_of hB (by decide) (by decide) fun p S1 hp B1 K1 => lpoly_of B1 (by decide) (by decide) fun q S2 hq B2 K2 => lpoly_of B2 (by decide) (by decide) fun r S3 hr B3 K3 => ?_
  have hp : BP D0 M0 7 p := hp.d0
  have hq : BP D0 M0 7 q := (hq.d0).mono (Nat.le_refl _) (by decide)
  have hr : BP D0 M0 7 r := (hr.d0).mono (Nat.le_refl _) (by decide)
  rw [seq_step]; simp only [rsFor, rLc, wipeD, rsNext, rsDrop, rsRet, rsRetN, rsIf, rsAsg, rsPar, rsPar3, rsAug, rsSet, rsBreak, rsCont, rVar, rC, rBin, rTru, rTest, rChain, rNeg, rNot, rAnd, rOr, rIf, rAndV, rOrV, rNotV, rNil, rCons, rTup, rLst, rNone, rSome, rSl, rCall, rCallK, rBlt, rLRev, rMeth, rMeth0, rYes, wSeq, wEnum, wRev, wRng1, wRng2, addD_int, addD_tup, addD_str, addD_ref, subD_int, mulD_int, mulD_ref, mulD_tup, fdivD_int, modD_int, powD_int, cmpD_int, isD_non, isnD_non, iaddD_int, isNon_non, isNon_int, isNon_str, isNon_tup, isNon_fr, isNon_bl, eqD_int, neD_int, absD_int, intD_int, intD_bl, lenD_tup, lenD_ref, lenD_pl, listD_pl, tupleD_pl, seqW_pl, enumW_pl, revW_pl, slD_pl, isNon_pl, addD_pl, listD_tup, listD_ref, tupleD_tup, tupleD_ref, max2D_int, min2D_int, truD_int, truD_bl, truD_tup, truD_non, seqW_tup, seqW_ref, enumW_tup, enumW_ref, revW_tup, revW_ref, rngW1_int, rngW2_int, slD_tup, slD_ref, slD_frl, popD_ref, appendD_ref, extendD_ref, setD_ref, bindG_nm, bindG_tup, bindGs_nil, bindGs_cons, ixD_ref, startD, List.map_cons, List.map_nil, List.length_cons, List.length_nil, List.cons_append, List.nil_append, List.getElem?_cons_zero, List.getElem?_cons_succ, List.set_cons_zero, List.set_cons_succ, Option.some.injEq, exists_eq_left', exists_eq_left, Option.bind_some, Nat.reduceAdd, Nat.reduceSub, List.replicate_succ, List.replicate_zero, Dt.bl.injEq, Dt.int.injEq, decide_eq_true_eq, decide_eq_false_iff_not, Bool.false_eq_true, Bool.true_eq_false, if_true, if_false, Bool.not_eq_true', Bool.not_true, Bool.not_false, bne_iff_ne, ne_eq, ixD_fr0, ixD_fr1, ixD_pair0, ixD_pair1, Dt.ref.injEq, List.cons.injEq, and_true, true_and, reduceIte, exists_eq, Nat.zero_add, Dt.tup.injEq, and_self, and_assoc, exists_and_left, fr_inj, pl_inj, ite_true, ite_false]
  refine draw_of B3 (by decide) (by decide) fun w S4 w0 w1 B4 K4 => ?_
  rw [seq_step]; simp only [rsFor, rLc, wipeD, rsNext, rsDrop, rsRet, rsRetN, rsIf, rsAsg, rsPar, rsPar3, rsAug, rsSet, rsBreak, rsCont, rVar, rC, rBin, rTru, rTest, rChain, rNeg, rNot, rAnd, rOr, rIf, rAndV, rOrV, rNotV, rNil, rCons, rTup, rLst, rNone, rSome, rSl, rCall, rCallK, rBlt, rLRev, rMeth, rMeth0, rYes, wSeq, wEnum, wRev, wRng1, wRng2, addD_int, addD_tup, addD_str, addD_ref, subD_int, mulD_int, mulD_ref, mulD_tup, fdivD_int, modD_int, powD_int, cmpD_int, isD_non, isnD_non, iaddD_int, isNon_non, isNon_int, isNon_str, isNon_tup, isNon_fr, isNon_bl, eqD_int, neD_int, absD_int, intD_int, intD_bl, lenD_tup, lenD_ref, lenD_pl, listD_pl, tupleD_pl, seqW_pl, enumW_pl, revW_pl, slD_pl, isNon_pl, addD_pl, listD_tup, listD_ref, tupleD_tup, tupleD_ref, max2D_int, min2D_int, truD_int, truD_bl, truD_tup, truD_non, seqW_tup, seqW_ref, enumW_tup, enumW_ref, revW_tup, revW_ref, rngW1_int, rngW2_int, slD_tup, slD_ref, slD_frl, popD_ref, appendD_ref, extendD_ref, setD_ref, bindG_nm, bindG_tup, bindGs_nil, bindGs_cons, ixD_ref, startD, List.map_cons, List.map_nil, List.length_cons, List.length_nil, List.cons_append, List.nil_append, List.getElem?_cons_zero, List.getElem?_cons_succ, List.set_cons_zero, List.set_cons_succ, Option.some.injEq, exists_eq_left', exists_eq_left, Option.bind_some, Nat.reduceAdd, Nat.reduceSub, List.replicate_succ, List.replicate_zero, Dt.bl.injEq, Dt.int.injEq, decide_eq_true_eq, decide_eq_false_iff_not, Bool.false_eq_true, Bool.true_eq_false, if_true, if_false, Bool.not_eq_true', Bool.not_true, Bool.not_false, bne_iff_ne, ne_eq, ixD_fr0, ixD_fr1, ixD_pair0, ixD_pair1, Dt.ref.injEq, List.cons.injEq, and_true, true_and, reduceIte, exists_eq, Nat.zero_add, Dt.tup.injEq, and_self, and_assoc, exists_and_left, fr_inj, pl_inj, ite_true, ite_false]
  split
  · refine ⟨by decide, neD_of eqR_pl_nil ?_⟩
    simp only [rsFor, rLc, wipeD, rsNext, rsDrop, rsRet, rsRetN, rsIf, rsAsg, rsPar, rsPar3, rsAug, rsSet, rsBreak, rsCont, rVar, rC, rBin, rTru, rTest, rChain, rNeg, rNot, rAnd, rOr, rIf, rAndV, rOrV, rNotV, rNil, rCons, rTup, rLst, rNone, rSome, rSl, rCall, rCallK, rBlt, rLRev, rMeth, rMeth0, rYes, wSeq, wEnum, wRev, wRng1, wRng2, addD_int, addD_tup, addD_str, addD_ref, subD_int, mulD_int, mulD_ref, mulD_tup, fdivD_int, modD_int, powD_int, cmpD_int, isD_non, isnD_non, iaddD_int, isNon_non, isNon_int, isNon_str, isNon_tup, isNon_fr, isNon_bl, eqD_int, neD_int, absD_int, intD_int, intD_bl, lenD_tup, lenD_ref, lenD_pl, listD_pl, tupleD_pl, seqW_pl, enumW_pl, revW_pl, slD_pl, isNon_pl, addD_pl, listD_tup, listD_ref, tupleD_tup, tupleD_ref, max2D_int, min2D_int, truD_int, truD_bl, truD_tup, truD_non, seqW_tup, seqW_ref, enumW_tup, enumW_ref, revW_tup, revW_ref, rngW1_int, rngW2_int, slD_tup, slD_ref, slD_frl, popD_ref, appendD_ref, extendD_ref, setD_ref, bindG_nm, bindG_tup, bindGs_nil, bindGs_cons, ixD_ref, startD, List.map_cons, List.map_nil, List.length_cons, List.length_nil, List.cons_append, List.nil_append, List.getElem?_cons_zero, List.getElem?_cons_succ, List.set_cons_zero, List.set_cons_succ, Option.some.injEq, exists_eq_left', exists_eq_left, Option.bind_some, Nat.reduceAdd, Nat.reduceSub, List.replicate_succ, List.replicate_zero, Dt.bl.injEq, Dt.int.injEq, decide_eq_true_eq, decide_eq_false_iff_not, Bool.false_eq_true, Bool.true_eq_false, if_true, if_false, Bool.not_eq_true', Bool.not_true, Bool.not_false, bne_iff_ne, ne_eq, ixD_fr0, ixD_fr1, ixD_pair0, ixD_pair1, Dt.ref.injEq, List.cons.injEq, and_true, true_and, reduceIte, exists_eq, Nat.zero_add, Dt.tup.injEq, and_self, and_assoc, exists_and_left, fr_inj, pl_inj, ite_true, ite_false]
    split
    · rename_i hne
      have hl : 0 < p.length := List.length_pos_iff.mpr hne
      have lp := hp.ln
      rw [seq_step]; simp only [rsFor, rLc, wipeD, rsNext, rsDrop, rsRet, rsRetN, rsIf, rsAsg, rsPar, rsPar3, rsAug, rsSet, rsBreak, rsCont, rVar, rC, rBin, rTru, rTest, rChain, rNeg, rNot, rAnd, rOr, rIf, rAndV, rOrV, rNotV, rNil, rCons, rTup, rLst, rNone, rSome, rSl, rCall, rCallK, rBlt, rLRev, rMeth, rMeth0, rYes, wSeq, wEnum, wRev, wRng1, wRng2, addD_int, addD_tup, addD_str, addD_ref, subD_int, mulD_int, mulD_ref, mulD_tup, fdivD_int, modD_int, powD_int, cmpD_int, isD_non, isnD_non, iaddD_int, isNon_non, isNon_int, isNon_str, isNon_tup, isNon_fr, isNon_bl, eqD_int, neD_int, absD_int, intD_int, intD_bl, lenD_tup, lenD_ref, lenD_pl, listD_pl, tupleD_pl, seqW_pl, enumW_pl, revW_pl, slD_pl, isNon_pl, addD_pl, listD_tup, listD_ref, tupleD_tup, tupleD_ref, max2D_int, min2D_int, truD_int, truD_bl, truD_tup, truD_non, seqW_tup, seqW_ref, enumW_tup, enumW_ref, revW_tup, revW_ref, rngW1_int, rngW2_int, slD_tup, slD_ref, slD_frl, popD_ref, appendD_ref, extendD_ref, setD_ref, bindG_nm, bindG_tup, bindGs_nil, bindGs_cons, ixD_ref, startD, List.map_cons, List.map_nil, List.length_cons, List.length_nil, List.cons_append, List.nil_append, List.getElem?_cons_zero, List.getElem?_cons_succ, List.set_cons_zero, List.set_cons_succ, Option.some.injEq, exists_eq_left', exists_eq_left, Option.bind_some, Nat.reduceAdd, Nat.reduceSub, List.replicate_succ, List.replicate_zero, Dt.bl.injEq, Dt.int.injEq, decide_eq_true_eq, decide_eq_false_iff_not, Bool.false_eq_true, Bool.true_eq_false, if_true, if_false, Bool.not_eq_true', Bool.not_true, Bool.not_false, bne_iff_ne, ne_eq, ixD_fr0, ixD_fr1, ixD_pair0, ixD_pair1, Dt.ref.injEq, List.cons.injEq, and_true, true_and, reduceIte, exists_eq, Nat.zero_add, Dt.tup.injEq, and_self, and_assoc, exists_and_left, fr_inj, pl_inj, ite_true, ite_false]
      refine draw_of B4 (by omega) (by omega) fun k S5 k0 k1 B5 K5 => ?_
      simp only [rsFor, rLc, wipeD, rsNext, rsDrop, rsRet, rsRetN, rsIf, rsAsg, rsPar, rsPar3, rsAug, rsSet, rsBreak, rsCont, rVar, rC, rBin, rTru, rTest, rChain, rNeg, rNot, rAnd, rOr, rIf, rAndV, rOrV, rNotV, rNil, rCons, rTup, rLst, rNone, rSome, rSl, rCall, rCallK, rBlt, rLRev, rMeth, rMeth0, rYes, wSeq, wEnum, wRev, wRng1, wRng2, addD_int, addD_tup, addD_str, addD_ref, subD_int, mulD_int, mulD_ref, mulD_tup, fdivD_int, modD_int, powD_int, cmpD_int, isD_non, isnD_non, iaddD_int, isNon_non, isNon_int, isNon_str, isNon_tup, isNon_fr, isNon_bl, eqD_int, neD_int, absD_int, intD_int, intD_bl, lenD_tup, lenD_ref, lenD_pl, listD_pl, tupleD_pl, seqW_pl, enumW_pl, revW_pl, slD_pl, isNon_pl, addD_pl, listD_tup, listD_ref, tupleD_tup, tupleD_ref, max2D_int, min2D_int, truD_int, truD_bl, truD_tup, truD_non, seqW_tup, seqW_ref, enumW_tup, enumW_ref, revW_tup, revW_ref, rngW1_int, rngW2_int, slD_tup, slD_ref, slD_frl, popD_ref, appendD_ref, extendD_ref, setD_ref, bindG_nm, bindG_tup, bindGs_nil, bindGs_cons, ixD_ref, startD, List.map_cons, List.map_nil, List.length_cons, List.length_nil, List.cons_append, List.nil_append, List.getElem?_cons_zero, List.getElem?_cons_succ, List.set_cons_zero, List.set_cons_succ, Option.some.injEq, exists_eq_left', exists_eq_left, Option.bind_some, Nat.reduceAdd, Nat.reduceSub, List.replicate_succ, List.replicate_zero, Dt.bl.injEq, Dt.int.injEq, decide_eq_true_eq, decide_eq_false_iff_not, Bool.false_eq_true, Bool.true_eq_false, if_true, if_false, Bool.not_eq_true', Bool.not_true, Bool.not_false, bne_iff_ne, ne_eq, ixD_fr0, ixD_fr1, ixD_pair0, ixD_pair1, Dt.ref.injEq, List.cons.injEq, and_true, true_and, reduceIte, exists_eq, Nat.zero_add, Dt.tup.injEq, and_self, and_assoc, exists_and_left, fr_inj, pl_inj, ite_true, ite_false]
      obtain ⟨c1, e1, s1⟩ := cut_frs (q := q) (lo := none) (hi := some k)
      obtain ⟨c2, e2, s2⟩ := cut_frs (q := p) (lo := some k) (hi := none)
      have hkn : (k.toNat : Int) = k := by omega
      have lc1 : c1.length = min k.toNat q.length := by
        have := cut_len1 (xs := q.map fr) (k := k.toNat)
        rw [hkn, e1, List.length_map, List.length_map] at this
        exact this
      have lc2 : c2.length = p.length - min k.toNat p.length := by
        have := cut_len2 (xs := p.map fr) (k := k.toNat)
        rw [hkn, e2, List.length_map, List.length_map] at this
        exact this
      have lq := hq.ln
      have sl : sizeLine = 16777216 := by decide
      generalize hz : (if k - (q.length : Int) > 0 then k - (q.length : Int) else 0) = z
      have hz0 : 0 ≤ z ∧ z ≤ 7 := by rw [← hz]; split <;> omega
      have hzn : z.toNat = k.toNat - q.length := by rw [← hz]; split <;> omega
      rw [e1]
      intro A1 h1
      refine ⟨by decide, by decide, fun A2 h2 => ⟨_, put_same, by omega, by omega, by simp only [List.length_cons, List.length_nil]; omega, fun A3 h3 => ?_⟩⟩
      have l1 := Sub.put (o := .lst (List.replicate z.toNat [Dt.tup [Dt.int 0, Dt.int 1]]).flatten) h3 _ _ (Sub.put (o := .lst [Dt.tup [Dt.int 0, Dt.int 1]]) h2 A1 (.lst (c1.map fr)) put_same)
      have ez : (List.replicate z.toNat [Dt.tup [Dt.int 0, Dt.int 1]]).flatten = (List.replicate z.toNat (0 : Rat)).map fr := by
        rw [zeros_flat, List.map_replicate, zero_fr]
      refine ⟨_, l1, _, put_same, by rw [ez, List.length_map, List.length_map, List.length_replicate]; omega, fun A4 h4 => ?_⟩
      rw [ez] at h4 ⊢
      have B8 := (((B5.new (o := .lst (c1.map fr)) h1).new (o := .lst [Dt.tup [Dt.int 0, Dt.int 1]]) h2).new (o := .lst ((List.replicate z.toNat (0 : Rat)).map fr)) h3).new (o := .lst (c1.map fr ++ (List.replicate z.toNat (0 : Rat)).map fr)) h4
      have at8 : put (put (put (put S5 A1 (.lst (c1.map fr))) A2 (.lst [Dt.tup [Dt.int 0, Dt.int 1]])) A3 (.lst ((List.replicate z.toNat (0 : Rat)).map fr))) A4 (.lst (c1.map fr ++ (List.replicate z.toNat (0 : Rat)).map fr)) A4 = some (.lst (c1.map fr ++ (List.replicate z.toNat (0 : Rat)).map fr)) := put_same
      generalize put (put (put (put S5 A1 _) A2 _) A3 _) A4 _ = S8 at B8 at8 ⊢
      intro A5 h5
      have n45 : A4 ≠ A5 := fun e => by rw [← e, at8] at h5; cases h5
      rw [e2]
      refine lcGo_pure ngD (c2.map fr) [] _ put_same (fun _ => trivial) (by simp only [List.length_nil, List.length_map]; omega) (fun x hx => ?_) ?_
      · obtain ⟨y, hy, rfl⟩ := List.mem_map.mp hx
        refine ⟨_, bindG_nm, fun S' Q' hq' => ?_⟩
        simp only [rsFor, rLc, wipeD, rsNext, rsDrop, rsRet, rsRetN, rsIf, rsAsg, rsPar, rsPar3, rsAug, rsSet, rsBreak, rsCont, rVar, rC, rBin, rTru, rTest, rChain, rNeg, rNot, rAnd, rOr, rIf, rAndV, rOrV, rNotV, rNil, rCons, rTup, rLst, rNone, rSome, rSl, rCall, rCallK, rBlt, rLRev, rMeth, rMeth0, rYes, wSeq, wEnum, wRev, wRng1, wRng2, addD_int, addD_tup, addD_str, addD_ref, subD_int, mulD_int, mulD_ref, mulD_tup, fdivD_int, modD_int, powD_int, cmpD_int, isD_non, isnD_non, iaddD_int, isNon_non, isNon_int, isNon_str, isNon_tup, isNon_fr, isNon_bl, eqD_int, neD_int, absD_int, intD_int, intD_bl, lenD_tup, lenD_ref, lenD_pl, listD_pl, tupleD_pl, seqW_pl, enumW_pl, revW_pl, slD_pl, isNon_pl, addD_pl, listD_tup, listD_ref, tupleD_tup, tupleD_ref, max2D_int, min2D_int, truD_int, truD_bl, truD_tup, truD_non, seqW_tup, seqW_ref, enumW_tup, enumW_ref, revW_tup, revW_ref, rngW1_int, rngW2_int, slD_tup, slD_ref, slD_frl, popD_ref, appendD_ref, extendD_ref, setD_ref, bindG_nm, bindG_tup, bindGs_nil, bindGs_cons, ixD_ref, startD, List.map_cons, List.map_nil, List.length_cons, List.length_nil, List.cons_append, List.nil_append, List.getElem?_cons_zero, List.getElem?_cons_succ, List.set_cons_zero, List.set_cons_succ, Option.some.injEq, exists_eq_left', exists_eq_left, Option.bind_some, Nat.reduceAdd, Nat.reduceSub, List.replicate_succ, List.replicate_zero, Dt.bl.injEq, Dt.int.injEq, decide_eq_true_eq, decide_eq_false_iff_not, Bool.false_eq_true, Bool.true_eq_false, if_true, if_false, Bool.not_eq_true', Bool.not_true, Bool.not_false, bne_iff_ne, ne_eq, ixD_fr0, ixD_fr1, ixD_pair0, ixD_pair1, Dt.ref.injEq, List.cons.injEq, and_true, true_and, reduceIte, exists_eq, Nat.zero_add, Dt.tup.injEq, and_self, and_assoc, exists_and_left, fr_inj, pl_inj, ite_true, ite_false, sp__law_minus]
        rw [← ng_fr]; exact hq'
      · rw [put_put, ng_frs, List.nil_append]
        have B9 := B8.new (o := .lst ((c2.map fun x => -x).map fr)) h5
        refine ⟨_, by rw [put_ne n45]; exact at8, _, put_same, by simp only [List.length_append, List.length_map, List.length_replicate]; omega, fun A6 h6 => ?_⟩
        have er : c1.map fr ++ (List.replicate z.toNat (0 : Rat)).map fr ++ (c2.map fun x => -x).map fr = (c1 ++ List.replicate z.toNat 0 ++ c2.map fun x => -x).map fr := by simp
        rw [er]
        refine trim_of lst_same ?_
        have B10 := B9.new (o := .lst ((c1 ++ List.replicate z.toNat 0 ++ c2.map fun x => -x).map fr)) h6
        have bq : BP D0 M0 7 (trim (c1 ++ List.replicate z.toNat 0 ++ c2.map fun x => -x)) := by
          refine ⟨trim_trim _, Nat.le_trans (trim_len _) ?_, WL.trim fun x hx => ?_⟩
          · simp only [List.length_append, List.length_map, List.length_replicate]; omega
          · rcases List.mem_append.mp hx with hx | hx
            · rcases List.mem_append.mp hx with hx | hx
              · exact hq.wl x (s1 x hx)
              · rw [List.eq_of_mem_replicate hx]; exact .zero
            · obtain ⟨y, hy, rfl⟩ := List.mem_map.mp hx
              exact (hp.wl y (s2 y hy)).neg
        exact loop_v B10 hp bq hr fun S' n x5 p q r B => hD _ _ _ _ _ _ _ _ B
    · exact loop_v B4 hp hq hr fun S' n x5 p q r B => hD _ _ _ _ _ _ _ _ B
  · exact loop_v B4 hp hq hr fun S' n x5 p q r B => hD _ _ _ _ _ _ _ _ B
theorem loop_law {D : EndsD} {a b : Addr} {x0 x10 x11 : Option Dt} (hD : ∀ S σ, D.nx σ S) : ∀ (items : List Dt) (n : Bool) (x3 x4 x5 x6 x7 x8 x9 : Option Dt) (S : Sto), BagAt S a b → forGo (.nm 3) tb_law D (fun _ => True) items [x0, some (.ref a), some (.bl n), x3, x4, x5, x6, x7, x8, x9, x10, x11] S
  | [], n, x3, x4, x5, x6, x7, x8, x9, S, hB => ⟨trivial, hD _ _⟩
  | d :: items, n, x3, x4, x5, x6, x7, x8, x9, S, hB => by
    refine ⟨trivial, _, bindG_nm, ?_⟩
    exact loop_tb (x3 := some d) hB fun S' n x4 x5 x6 x7 x8 x9 B => loop_law hD items n _ _ _ _ _ _ _ S' B
theorem hw_law : ∀ ds St Q R, sp_law ds St Q R → t_law (endsD Q R) (startD ["script", "bag", "is_named", "turn", "way", "kept", "one", "other", "third", "k", "again", "x"] ds) St := by
  rintro ds S Q R ⟨ns, rfl, hl, hQ⟩
  unfold t_law
  simp only [startD]
  rw [seq_step]; simp only [rsFor, rLc, wipeD, rsNext, rsDrop, rsRet, rsRetN, rsIf, rsAsg, rsPar, rsPar3, rsAug, rsSet, rsBreak, rsCont, rVar, rC, rBin, rTru, rTest, rChain, rNeg, rNot, rAnd, rOr, rIf, rAndV, rOrV, rNotV, rNil, rCons, rTup, rLst, rNone, rSome, rSl, rCall, rCallK, rBlt, rLRev, rMeth, rMeth0, rYes, wSeq, wEnum, wRev, wRng1, wRng2, addD_int, addD_tup, addD_str, addD_ref, subD_int, mulD_int, mulD_ref, mulD_tup, fdivD_int, modD_int, powD_int, cmpD_int, isD_non, isnD_non, iaddD_int, isNon_non, isNon_int, isNon_str, isNon_tup, isNon_fr, isNon_bl, eqD_int, neD_int, absD_int, intD_int, intD_bl, lenD_tup, lenD_ref, lenD_pl, listD_pl, tupleD_pl, seqW_pl, enumW_pl, revW_pl, slD_pl, isNon_pl, addD_pl, listD_tup, listD_ref, tupleD_tup, tupleD_ref, max2D_int, min2D_int, truD_int, truD_bl, truD_tup, truD_non, seqW_tup, seqW_ref, enumW_tup, enumW_ref, revW_tup, revW_ref, rngW1_int, rngW2_int, slD_tup, slD_ref, slD_frl, popD_ref, appendD_ref, extendD_ref, setD_ref, bindG_nm, bindG_tup, bindGs_nil, bindGs_cons, ixD_ref, startD, List.map_cons, List.map_nil, List.length_cons, List.length_nil, List.cons_append, List.nil_append, List.getElem?_cons_zero, List.getElem?_cons_succ, List.set_cons_zero, List.set_cons_succ, Option.some.injEq, exists_eq_left', exists_eq_left, Option.bind_some, Nat.reduceAdd, Nat.reduceSub, List.replicate_succ, List.replicate_zero, Dt.bl.injEq, Dt.int.injEq, decide_eq_true_eq, decide_eq_false_iff_not, Bool.false_eq_true, Bool.true_eq_false, if_true, if_false, Bool.not_eq_true', Bool.not_true, Bool.not_false, bne_iff_ne, ne_eq, ixD_fr0, ixD_fr1, ixD_pair0, ixD_pair1, Dt.ref.injEq, List.cons.injEq, and_true, true_and, reduceIte, exists_eq, Nat.zero_add, Dt.tup.injEq, and_self, and_assoc, exists_and_left, fr_inj, pl_inj, ite_true, ite_false]
  refine ⟨ns, rfl, hl, fun a b S1 B1 => ?_⟩
  show rsSeq _ _ _ _ _
  rw [seq_step]; simp only [rsFor, rLc, wipeD, rsNext, rsDrop, rsRet, rsRetN, rsIf, rsAsg, rsPar, rsPar3, rsAug, rsSet, rsBreak, rsCont, rVar, rC, rBin, rTru, rTest, rChain, rNeg, rNot, rAnd, rOr, rIf, rAndV, rOrV, rNotV, rNil, rCons, rTup, rLst, rNone, rSome, rSl, rCall, rCallK, rBlt, rLRev, rMeth, rMeth0, rYes, wSeq, wEnum, wRev, wRng1, wRng2, addD_int, addD_tup, addD_str, addD_ref, subD_int, mulD_int, mulD_ref, mulD_tup, fdivD_int, modD_int, powD_int, cmpD_int, isD_non, isnD_non, iaddD_int, isNon_non, isNon_int, isNon_str, isNon_tup, isNon_fr, isNon_bl, eqD_int, neD_int, absD_int, intD_int, intD_bl, lenD_tup, lenD_ref, lenD_pl, listD_pl, tupleD_pl, seqW_pl, enumW_pl, revW_pl, slD_pl, isNon_pl, addD_pl, listD_tup, listD_ref, tupleD_tup, tupleD_ref, max2D_int, min2D_int, truD_int, truD_bl, truD_tup, truD_non, seqW_tup, seqW_ref, enumW_tup, enumW_ref, revW_tup, revW_ref, rngW1_int, rngW2_int, slD_tup, slD_ref, slD_frl, popD_ref, appendD_ref, extendD_ref, setD_ref, bindG_nm, bindG_tup, bindGs_nil, bindGs_cons, ixD_ref, startD, List.map_cons, List.map_nil, List.length_cons, List.length_nil, List.cons_append, List.nil_append, List.getElem?_cons_zero, List.getElem?_cons_succ, List.set_cons_zero, List.set_cons_succ, Option.some.injEq, exists_eq_left', exists_eq_left, Option.bind_some, Nat.reduceAdd, Nat.reduceSub, List.replicate_succ, List.replicate_zero, Dt.bl.injEq, Dt.int.injEq, decide_eq_true_eq, decide_eq_false_iff_not, Bool.false_eq_true, Bool.true_eq_false, if_true, if_false, Bool.not_eq_true', Bool.not_true, Bool.not_false, bne_iff_ne, ne_eq, ixD_fr0, ixD_fr1, ixD_pair0, ixD_pair1, Dt.ref.injEq, List.cons.injEq, and_true, true_and, reduceIte, exists_eq, Nat.zero_add, Dt.tup.injEq, and_self, and_assoc, exists_and_left, fr_inj, pl_inj, ite_true, ite_false]
  refine draw_of B1 (by decide) (by decide) fun v S2 v0 v1 B2 K2 => ?_
  rw [eqD_int]
  rw [seq_step]; simp only [rsFor, rLc, wipeD, rsNext, rsDrop, rsRet, rsRetN, rsIf, rsAsg, rsPar, rsPar3, rsAug, rsSet, rsBreak, rsCont, rVar, rC, rBin, rTru, rTest, rChain, rNeg, rNot, rAnd, rOr, rIf, rAndV, rOrV, rNotV, rNil, rCons, rTup, rLst, rNone, rSome, rSl, rCall, rCallK, rBlt, rLRev, rMeth, rMeth0, rYes, wSeq, wEnum, wRev, wRng1, wRng2, addD_int, addD_tup, addD_str, addD_ref, subD_int, mulD_int, mulD_ref, mulD_tup, fdivD_int, modD_int, powD_int, cmpD_int, isD_non, isnD_non, iaddD_int, isNon_non, isNon_int, isNon_str, isNon_tup, isNon_fr, isNon_bl, eqD_int, neD_int, absD_int, intD_int, intD_bl, lenD_tup, lenD_ref, lenD_pl, listD_pl, tupleD_pl, seqW_pl, enumW_pl, revW_pl, slD_pl, isNon_pl, addD_pl, listD_tup, listD_ref, tupleD_tup, tupleD_ref, max2D_int, min2D_int, truD_int, truD_bl, truD_tup, truD_non, seqW_tup, seqW_ref, enumW_tup, enumW_ref, revW_tup, revW_ref, rngW1_int, rngW2_int, slD_tup, slD_ref, slD_frl, popD_ref, appendD_ref, extendD_ref, setD_ref, bindG_nm, bindG_tup, bindGs_nil, bindGs_cons, ixD_ref, startD, List.map_cons, List.map_nil, List.length_cons, List.length_nil, List.cons_append, List.nil_append, List.getElem?_cons_zero, List.getElem?_cons_succ, List.set_cons_zero, List.set_cons_succ, Option.some.injEq, exists_eq_left', exists_eq_left, Option.bind_some, Nat.reduceAdd, Nat.reduceSub, List.replicate_succ, List.replicate_zero, Dt.bl.injEq, Dt.int.injEq, decide_eq_true_eq, decide_eq_false_iff_not, Bool.false_eq_true, Bool.true_eq_false, if_true, if_false, Bool.not_eq_true', Bool.not_true, Bool.not_false, bne_iff_ne, ne_eq, ixD_fr0, ixD_fr1, ixD_pair0, ixD_pair1, Dt.ref.injEq, List.cons.injEq, and_true, true_and, reduceIte, exists_eq, Nat.zero_add, Dt.tup.injEq, and_self, and_assoc, exists_and_left, fr_inj, pl_inj, ite_true, ite_false]
  refine ⟨⟨by decide, by decide⟩, ?_⟩
  exact loop_law (b := b) (fun S σ => rt_of (R := R) (hQ S)) _ _ _ _ _ _ _ _ _ _ B2
theorem len_law : ∀ ds S Q R, sp_law ds S Q R → ds.length = 1 := by rintro ds S Q R ⟨ns, rfl, _⟩; rfl
def t__law_own_bag : RS := tb_of 21638002
theorem hw__law_own_bag : ∀ ds St Q R, sp__law_own_bag ds St Q R → t__law_own_bag (endsD Q R) (startD ["script", "cells", "mixed", "cell"] ds) St := hw_bag (N := ("script", "cells", "mixed", "cell")) (by decide) (by decide)
end Ev

namespace K02
open PySem PySem.Spec PyProof.Rows L2 Ev
abbrev P : Program := PySem.Challenge.pw_evernew_k02_whole_polynomials
def st (i : Nat) : Stmt := PySem.Challenge.pw_evernew_k02_whole_polynomials.main.body.getD i (.Pass ⟨0, 0, 0, 0⟩)
abbrev s_common_divisor : Stmt := st 8
abbrev ps_common_divisor : List Str := ["one", "other"]
abbrev N_common_divisor : List Str := ["one", "other", "low", "high"]
abbrev kw_common_divisor : List (Nat × List Str) := []
abbrev s_made : Stmt := st 9
abbrev ps_made : List Str := ["above", "below"]
abbrev N_made : List Str := ["above", "below", "common"]
abbrev kw_made : List (Nat × List Str) := []
abbrev s_plus : Stmt := st 10
abbrev ps_plus : List Str := ["one", "other"]
abbrev N_plus : List Str := ["one", "other"]
abbrev kw_plus : List (Nat × List Str) := []
abbrev s_times : Stmt := st 11
abbrev ps_times : List Str := ["one", "other"]
abbrev N_times : List Str := ["one", "other"]
abbrev kw_times : List (Nat × List Str) := []
abbrev s_is_grown : Stmt := st 12
abbrev ps_is_grown : List Str := ["one"]
abbrev N_is_grown : List Str := ["one"]
abbrev kw_is_grown : List (Nat × List Str) := []
abbrev s_fit_fraction : Stmt := st 13
abbrev ps_fit_fraction : List Str := ["one"]
abbrev N_fit_fraction : List Str := ["one"]
abbrev kw_fit_fraction : List (Nat × List Str) := []
abbrev s_fit_polys : Stmt := st 14
abbrev ps_fit_polys : List Str := ["polys"]
abbrev N_fit_polys : List Str := ["polys", "poly", "one"]
abbrev kw_fit_polys : List (Nat × List Str) := []
abbrev s_fit_poly : Stmt := st 15
abbrev ps_fit_poly : List Str := ["poly"]
abbrev N_fit_poly : List Str := ["poly"]
abbrev kw_fit_poly : List (Nat × List Str) := []
abbrev s_is_integer : Stmt := st 17
abbrev ps_is_integer : List Str := ["value"]
abbrev N_is_integer : List Str := ["value"]
abbrev kw_is_integer : List (Nat × List Str) := []
abbrev s_fraction_error : Stmt := st 18
abbrev ps_fraction_error : List Str := ["value"]
abbrev N_fraction_error : List Str := ["value"]
abbrev kw_fraction_error : List (Nat × List Str) := []
abbrev s_trimmed : Stmt := st 21
abbrev ps_trimmed : List Str := ["items"]
abbrev N_trimmed : List Str := ["items", "many"]
abbrev kw_trimmed : List (Nat × List Str) := []
abbrev s_poly_plus : Stmt := st 22
abbrev ps_poly_plus : List Str := ["one", "other"]
abbrev N_poly_plus : List Str := ["one", "other", "found", "longer", "shorter", "k", "item"]
abbrev kw_poly_plus : List (Nat × List Str) := []
abbrev s_poly_times : Stmt := st 23
abbrev ps_poly_times : List Str := ["one", "other"]
abbrev N_poly_times : List Str := ["one", "other", "found", "i", "first", "j", "second"]
abbrev kw_poly_times : List (Nat × List Str) := []
abbrev s_poly_by : Stmt := st 24
abbrev ps_poly_by : List Str := ["f", "poly"]
abbrev N_poly_by : List Str := ["f", "poly", "item"]
abbrev kw_poly_by : List (Nat × List Str) := []
abbrev s_value_at : Stmt := st 25
abbrev ps_value_at : List Str := ["poly", "t"]
abbrev N_value_at : List Str := ["poly", "t", "found", "item"]
abbrev kw_value_at : List (Nat × List Str) := []
abbrev s_slope_of : Stmt := st 26
abbrev ps_slope_of : List Str := ["poly"]
abbrev N_slope_of : List Str := ["poly", "k", "item"]
abbrev kw_slope_of : List (Nat × List Str) := []
abbrev s_poly_error : Stmt := st 27
abbrev ps_poly_error : List Str := ["value"]
abbrev N_poly_error : List Str := ["value", "k", "item", "error"]
abbrev kw_poly_error : List (Nat × List Str) := [(0, ["value"])]
abbrev s_poly_sum : Stmt := st 28
abbrev ps_poly_sum : List Str := ["one", "other"]
abbrev N_poly_sum : List Str := ["one", "other"]
abbrev kw_poly_sum : List (Nat × List Str) := [(0, ["other", "one"])]
abbrev s_poly_product : Stmt := st 29
abbrev ps_poly_product : List Str := ["one", "other"]
abbrev N_poly_product : List Str := ["one", "other"]
abbrev kw_poly_product : List (Nat × List Str) := [(0, ["other", "one"])]
abbrev s_poly_scaled : Stmt := st 30
abbrev ps_poly_scaled : List Str := ["f", "poly"]
abbrev N_poly_scaled : List Str := ["f", "poly"]
abbrev kw_poly_scaled : List (Nat × List Str) := [(0, ["poly", "f"])]
abbrev s_poly_at : Stmt := st 31
abbrev ps_poly_at : List Str := ["poly", "t"]
abbrev N_poly_at : List Str := ["poly", "t"]
abbrev kw_poly_at : List (Nat × List Str) := [(0, ["t", "poly"])]
abbrev s_poly_slope : Stmt := st 32
abbrev ps_poly_slope : List Str := ["poly"]
abbrev N_poly_slope : List Str := ["poly"]
abbrev kw_poly_slope : List (Nat × List Str) := [(0, ["poly"])]
abbrev s__law_own_bag : Stmt := st 34
abbrev ps__law_own_bag : List Str := ["script"]
abbrev N__law_own_bag : List Str := ["script", "cells", "mixed", "cell"]
abbrev kw__law_own_bag : List (Nat × List Str) := []
abbrev s__law_draw : Stmt := st 35
abbrev ps__law_draw : List Str := ["bag", "below"]
abbrev N__law_draw : List Str := ["bag", "below", "cell", "found"]
abbrev kw__law_draw : List (Nat × List Str) := []
abbrev s__law_pick : Stmt := st 36
abbrev ps__law_pick : List Str := ["bag", "some"]
abbrev N__law_pick : List Str := ["bag", "some"]
abbrev kw__law_pick : List (Nat × List Str) := []
abbrev s__law_is : Stmt := st 37
abbrev ps__law_is : List Str := ["told", "due"]
abbrev N__law_is : List Str := ["told", "due"]
abbrev kw__law_is : List (Nat × List Str) := []
abbrev s__law_all : Stmt := st 38
abbrev ps__law_all : List Str := ["found"]
abbrev N__law_all : List Str := ["found", "pair"]
abbrev kw__law_all : List (Nat × List Str) := []
abbrev s__law_gcd : Stmt := st 39
abbrev ps__law_gcd : List Str := ["a", "b"]
abbrev N__law_gcd : List Str := ["a", "b"]
abbrev kw__law_gcd : List (Nat × List Str) := []
abbrev s__law_frac : Stmt := st 40
abbrev ps__law_frac : List Str := ["a", "b"]
abbrev N__law_frac : List Str := ["a", "b", "c"]
abbrev kw__law_frac : List (Nat × List Str) := []
abbrev s__law_plus : Stmt := st 41
abbrev ps__law_plus : List Str := ["x", "y"]
abbrev N__law_plus : List Str := ["x", "y"]
abbrev kw__law_plus : List (Nat × List Str) := []
abbrev s__law_times : Stmt := st 42
abbrev ps__law_times : List Str := ["x", "y"]
abbrev N__law_times : List Str := ["x", "y"]
abbrev kw__law_times : List (Nat × List Str) := []
abbrev s__law_minus : Stmt := st 43
abbrev ps__law_minus : List Str := ["x"]
abbrev N__law_minus : List Str := ["x"]
abbrev kw__law_minus : List (Nat × List Str) := []
abbrev s__law_trim : Stmt := st 44
abbrev ps__law_trim : List Str := ["row"]
abbrev N__law_trim : List Str := ["row"]
abbrev kw__law_trim : List (Nat × List Str) := []
abbrev s__law_poly_plus : Stmt := st 45
abbrev ps__law_poly_plus : List Str := ["one", "other"]
abbrev N__law_poly_plus : List Str := ["one", "other", "found", "k", "x"]
abbrev kw__law_poly_plus : List (Nat × List Str) := []
abbrev s__law_poly_scaled : Stmt := st 46
abbrev ps__law_poly_scaled : List Str := ["f", "poly"]
abbrev N__law_poly_scaled : List Str := ["f", "poly", "x"]
abbrev kw__law_poly_scaled : List (Nat × List Str) := []
abbrev s__law_poly_times : Stmt := st 47
abbrev ps__law_poly_times : List Str := ["one", "other"]
abbrev N__law_poly_times : List Str := ["one", "other", "found", "i", "x", "j", "y"]
abbrev kw__law_poly_times : List (Nat × List Str) := []
abbrev s__law_poly_at : Stmt := st 48
abbrev ps__law_poly_at : List Str := ["poly", "t"]
abbrev N__law_poly_at : List Str := ["poly", "t", "found", "x"]
abbrev kw__law_poly_at : List (Nat × List Str) := []
abbrev s__law_poly_slope : Stmt := st 49
abbrev ps__law_poly_slope : List Str := ["poly"]
abbrev N__law_poly_slope : List Str := ["poly", "k"]
abbrev kw__law_poly_slope : List (Nat × List Str) := []
abbrev s__law_fraction : Stmt := st 50
abbrev ps__law_fraction : List Str := ["bag"]
abbrev N__law_fraction : List Str := ["bag", "way"]
abbrev kw__law_fraction : List (Nat × List Str) := []
abbrev s__law_small : Stmt := st 51
abbrev ps__law_small : List Str := ["bag"]
abbrev N__law_small : List Str := ["bag"]
abbrev kw__law_small : List (Nat × List Str) := []
abbrev s__law_poly : Stmt := st 52
abbrev ps__law_poly : List Str := ["bag", "most"]
abbrev N__law_poly : List Str := ["bag", "most", "found", "turn"]
abbrev kw__law_poly : List (Nat × List Str) := []
abbrev s__law_item_fault : Stmt := st 53
abbrev ps__law_item_fault : List Str := ["value"]
abbrev N__law_item_fault : List Str := ["value", "x"]
abbrev kw__law_item_fault : List (Nat × List Str) := []
abbrev s__law_fault : Stmt := st 54
abbrev ps__law_fault : List Str := ["value"]
abbrev N__law_fault : List Str := ["value", "k", "x", "error"]
abbrev kw__law_fault : List (Nat × List Str) := []
abbrev s__law_are_judged : Stmt := st 55
abbrev ps__law_are_judged : List Str := ["bag", "poly", "is_named"]
abbrev N__law_are_judged : List Str := ["bag", "poly", "is_named", "k", "odd", "other", "values", "value", "told"]
abbrev kw__law_are_judged : List (Nat × List Str) := []
abbrev s__law_are_two_right : Stmt := st 56
abbrev ps__law_are_two_right : List Str := ["bag", "one", "other", "is_named"]
abbrev N__law_are_two_right : List Str := ["bag", "one", "other", "is_named", "value", "due", "f", "t", "both", "product", "told", "own"]
abbrev kw__law_are_two_right : List (Nat × List Str) := []
abbrev s__law_are_three_right : Stmt := st 57
abbrev ps__law_are_three_right : List Str := ["one", "other", "third", "is_named"]
abbrev N__law_are_three_right : List Str := ["one", "other", "third", "is_named", "found", "left", "right", "spread", "slope", "due", "told"]
abbrev kw__law_are_three_right : List (Nat × List Str) := []
abbrev s_law : Stmt := st 58
abbrev ps_law : List Str := ["script"]
abbrev N_law : List Str := ["script", "bag", "is_named", "turn", "way", "kept", "one", "other", "third", "k", "again", "x"]
abbrev kw_law : List (Nat × List Str) := []
def fa : List He.Fa := ([.glo "common_divisor", .glo "made", .glo "plus", .glo "times", .glo "is_grown", .glo "fit_fraction", .glo "fit_polys", .glo "fit_poly", .glo "is_integer", .glo "fraction_error", .glo "trimmed", .glo "poly_plus", .glo "poly_times", .glo "poly_by", .glo "value_at", .glo "slope_of", .glo "poly_error", .glo "poly_sum", .glo "poly_product", .glo "poly_scaled", .glo "poly_at", .glo "poly_slope", .glo "_law_own_bag", .glo "_law_draw", .glo "_law_pick", .glo "_law_is", .glo "_law_all", .glo "_law_gcd", .glo "_law_frac", .glo "_law_plus"] : List He.Fa) ++ ([.glo "_law_times", .glo "_law_minus", .glo "_law_trim", .glo "_law_poly_plus", .glo "_law_poly_scaled", .glo "_law_poly_times", .glo "_law_poly_at", .glo "_law_poly_slope", .glo "_law_fraction", .glo "_law_small", .glo "_law_poly", .glo "_law_item_fault", .glo "_law_fault", .glo "_law_are_judged", .glo "_law_are_two_right", .glo "_law_are_three_right", .glo "law", .free "abs", .free "all", .free "bool", .free "enumerate", .free "int", .free "isinstance", .free "len", .free "list", .free "max", .free "range", .free "repr", .free "reversed", .free "tuple"] : List He.Fa) ++ ([.int "BIG" (10 ^ 600), .int "MAX_DEGREE" (6), .int "MAX_GROWN" (24), .glo "ZERO"] : List He.Fa)
def d_common_divisor : He.DefD := ⟨("common_divisor", none), "common_divisor", "common_divisor", defArgs s_common_divisor, defBody s_common_divisor, defScope s_common_divisor, [], []⟩
def d_made : He.DefD := ⟨("made", none), "made", "made", defArgs s_made, defBody s_made, defScope s_made, [], []⟩
def d_plus : He.DefD := ⟨("plus", none), "plus", "plus", defArgs s_plus, defBody s_plus, defScope s_plus, [], []⟩
def d_times : He.DefD := ⟨("times", none), "times", "times", defArgs s_times, defBody s_times, defScope s_times, [], []⟩
def d_is_grown : He.DefD := ⟨("is_grown", none), "is_grown", "is_grown", defArgs s_is_grown, defBody s_is_grown, defScope s_is_grown, [], []⟩
def d_fit_fraction : He.DefD := ⟨("fit_fraction", none), "fit_fraction", "fit_fraction", defArgs s_fit_fraction, defBody s_fit_fraction, defScope s_fit_fraction, [], []⟩
def d_fit_polys : He.DefD := ⟨("fit_polys", none), "fit_polys", "fit_polys", defArgs s_fit_polys, defBody s_fit_polys, defScope s_fit_polys, [], []⟩
def d_fit_poly : He.DefD := ⟨("fit_poly", none), "fit_poly", "fit_poly", defArgs s_fit_poly, defBody s_fit_poly, defScope s_fit_poly, [], []⟩
def d_is_integer : He.DefD := ⟨("is_integer", none), "is_integer", "is_integer", defArgs s_is_integer, defBody s_is_integer, defScope s_is_integer, [], []⟩
def d_fraction_error : He.DefD := ⟨("fraction_error", none), "fraction_error", "fraction_error", defArgs s_fraction_error, defBody s_fraction_error, defScope s_fraction_error, [], []⟩
def d_trimmed : He.DefD := ⟨("trimmed", none), "trimmed", "trimmed", defArgs s_trimmed, defBody s_trimmed, defScope s_trimmed, [], []⟩
def d_poly_plus : He.DefD := ⟨("poly_plus", none), "poly_plus", "poly_plus", defArgs s_poly_plus, defBody s_poly_plus, defScope s_poly_plus, [], []⟩
def d_poly_times : He.DefD := ⟨("poly_times", none), "poly_times", "poly_times", defArgs s_poly_times, defBody s_poly_times, defScope s_poly_times, [], []⟩
def d_poly_by : He.DefD := ⟨("poly_by", none), "poly_by", "poly_by", defArgs s_poly_by, defBody s_poly_by, defScope s_poly_by, [], []⟩
def d_value_at : He.DefD := ⟨("value_at", none), "value_at", "value_at", defArgs s_value_at, defBody s_value_at, defScope s_value_at, [], []⟩
def d_slope_of : He.DefD := ⟨("slope_of", none), "slope_of", "slope_of", defArgs s_slope_of, defBody s_slope_of, defScope s_slope_of, [], []⟩
def d_poly_error : He.DefD := ⟨("poly_error", none), "poly_error", "poly_error", defArgs s_poly_error, defBody s_poly_error, defScope s_poly_error, [], []⟩
def d_poly_sum : He.DefD := ⟨("poly_sum", none), "poly_sum", "poly_sum", defArgs s_poly_sum, defBody s_poly_sum, defScope s_poly_sum, [], []⟩
def d_poly_product : He.DefD := ⟨("poly_product", none), "poly_product", "poly_product", defArgs s_poly_product, defBody s_poly_product, defScope s_poly_product, [], []⟩
def d_poly_scaled : He.DefD := ⟨("poly_scaled", none), "poly_scaled", "poly_scaled", defArgs s_poly_scaled, defBody s_poly_scaled, defScope s_poly_scaled, [], []⟩
def d_poly_at : He.DefD := ⟨("poly_at", none), "poly_at", "poly_at", defArgs s_poly_at, defBody s_poly_at, defScope s_poly_at, [], []⟩
def d_poly_slope : He.DefD := ⟨("poly_slope", none), "poly_slope", "poly_slope", defArgs s_poly_slope, defBody s_poly_slope, defScope s_poly_slope, [], []⟩
def d__law_own_bag : He.DefD := ⟨("_law_own_bag", none), "_law_own_bag", "_law_own_bag", defArgs s__law_own_bag, defBody s__law_own_bag, defScope s__law_own_bag, [], []⟩
def d__law_draw : He.DefD := ⟨("_law_draw", none), "_law_draw", "_law_draw", defArgs s__law_draw, defBody s__law_draw, defScope s__law_draw, [], []⟩
def d__law_pick : He.DefD := ⟨("_law_pick", none), "_law_pick", "_law_pick", defArgs s__law_pick, defBody s__law_pick, defScope s__law_pick, [], []⟩
def d__law_is : He.DefD := ⟨("_law_is", none), "_law_is", "_law_is", defArgs s__law_is, defBody s__law_is, defScope s__law_is, [], []⟩
def d__law_all : He.DefD := ⟨("_law_all", none), "_law_all", "_law_all", defArgs s__law_all, defBody s__law_all, defScope s__law_all, [], []⟩
def d__law_gcd : He.DefD := ⟨("_law_gcd", none), "_law_gcd", "_law_gcd", defArgs s__law_gcd, defBody s__law_gcd, defScope s__law_gcd, [], []⟩
def d__law_frac : He.DefD := ⟨("_law_frac", none), "_law_frac", "_law_frac", defArgs s__law_frac, defBody s__law_frac, defScope s__law_frac, [], []⟩
def d__law_plus : He.DefD := ⟨("_law_plus", none), "_law_plus", "_law_plus", defArgs s__law_plus, defBody s__law_plus, defScope s__law_plus, [], []⟩
def d__law_times : He.DefD := ⟨("_law_times", none), "_law_times", "_law_times", defArgs s__law_times, defBody s__law_times, defScope s__law_times, [], []⟩
def d__law_minus : He.DefD := ⟨("_law_minus", none), "_law_minus", "_law_minus", defArgs s__law_minus, defBody s__law_minus, defScope s__law_minus, [], []⟩
def d__law_trim : He.DefD := ⟨("_law_trim", none), "_law_trim", "_law_trim", defArgs s__law_trim, defBody s__law_trim, defScope s__law_trim, [], []⟩
def d__law_poly_plus : He.DefD := ⟨("_law_poly_plus", none), "_law_poly_plus", "_law_poly_plus", defArgs s__law_poly_plus, defBody s__law_poly_plus, defScope s__law_poly_plus, [], []⟩
def d__law_poly_scaled : He.DefD := ⟨("_law_poly_scaled", none), "_law_poly_scaled", "_law_poly_scaled", defArgs s__law_poly_scaled, defBody s__law_poly_scaled, defScope s__law_poly_scaled, [], []⟩
def d__law_poly_times : He.DefD := ⟨("_law_poly_times", none), "_law_poly_times", "_law_poly_times", defArgs s__law_poly_times, defBody s__law_poly_times, defScope s__law_poly_times, [], []⟩
def d__law_poly_at : He.DefD := ⟨("_law_poly_at", none), "_law_poly_at", "_law_poly_at", defArgs s__law_poly_at, defBody s__law_poly_at, defScope s__law_poly_at, [], []⟩
def d__law_poly_slope : He.DefD := ⟨("_law_poly_slope", none), "_law_poly_slope", "_law_poly_slope", defArgs s__law_poly_slope, defBody s__law_poly_slope, defScope s__law_poly_slope, [], []⟩
def d__law_fraction : He.DefD := ⟨("_law_fraction", none), "_law_fraction", "_law_fraction", defArgs s__law_fraction, defBody s__law_fraction, defScope s__law_fraction, [], []⟩
def d__law_small : He.DefD := ⟨("_law_small", none), "_law_small", "_law_small", defArgs s__law_small, defBody s__law_small, defScope s__law_small, [], []⟩
def d__law_poly : He.DefD := ⟨("_law_poly", none), "_law_poly", "_law_poly", defArgs s__law_poly, defBody s__law_poly, defScope s__law_poly, [], []⟩
def d__law_item_fault : He.DefD := ⟨("_law_item_fault", none), "_law_item_fault", "_law_item_fault", defArgs s__law_item_fault, defBody s__law_item_fault, defScope s__law_item_fault, [], []⟩
def d__law_fault : He.DefD := ⟨("_law_fault", none), "_law_fault", "_law_fault", defArgs s__law_fault, defBody s__law_fault, defScope s__law_fault, [], []⟩
def d__law_are_judged : He.DefD := ⟨("_law_are_judged", none), "_law_are_judged", "_law_are_judged", defArgs s__law_are_judged, defBody s__law_are_judged, defScope s__law_are_judged, [], []⟩
def d__law_are_two_right : He.DefD := ⟨("_law_are_two_right", none), "_law_are_two_right", "_law_are_two_right", defArgs s__law_are_two_right, defBody s__law_are_two_right, defScope s__law_are_two_right, [], []⟩
def d__law_are_three_right : He.DefD := ⟨("_law_are_three_right", none), "_law_are_three_right", "_law_are_three_right", defArgs s__law_are_three_right, defBody s__law_are_three_right, defScope s__law_are_three_right, [], []⟩
def d_law : He.DefD := ⟨("law", none), "law", "law", defArgs s_law, defBody s_law, defScope s_law, [], []⟩
def fn : List He.DefD := ([d_common_divisor, d_made, d_plus, d_times, d_is_grown, d_fit_fraction, d_fit_polys, d_fit_poly, d_is_integer, d_fraction_error, d_trimmed, d_poly_plus, d_poly_times, d_poly_by, d_value_at, d_slope_of, d_poly_error, d_poly_sum, d_poly_product, d_poly_scaled, d_poly_at, d_poly_slope, d__law_own_bag, d__law_draw, d__law_pick, d__law_is, d__law_all, d__law_gcd, d__law_frac, d__law_plus] : List He.DefD) ++ ([d__law_times, d__law_minus, d__law_trim, d__law_poly_plus, d__law_poly_scaled, d__law_poly_times, d__law_poly_at, d__law_poly_slope, d__law_fraction, d__law_small, d__law_poly, d__law_item_fault, d__law_fault, d__law_are_judged, d__law_are_two_right, d__law_are_three_right, d_law] : List He.DefD)
def ex (K : PySem.W.Frag) : Bool := He.tupB K "ZERO" [.int (0), .int (1)]
abbrev R : PySem.W.OpenRow := PySem.W.OpenLaw.row PySem.Challenge.rw_evernew_k02_whole_polynomials
abbrev hk : PySem.W.Hook := He.hookX 4 fa fn [] [] ex
def ob (s : PySem.W.SharedT) : He.AlX := He.obsX 4 fa fn [] [] ex (HandSHeadRun.getT s)
theorem ob_eq (s : PySem.W.SharedT) : ob s = hk.obs s.abs := He.obsX_eq (HandSHeadRun.getT_eq s)
structure Facts (w : World) (K : PySem.W.Frag) (mg : Str → Option Value) : Prop where
  c : He.SaysD fa fn K
  e : ex K = true
  m : ∃ h : Heap, K.In h ∧ h.Ns mainGlobals mg
section
variable {w : World} {K : PySem.W.Frag} {mg : Str → Option Value} {base : Heap}
theorem Facts.glo (F : Facts w K mg) (i : Nat) {x : Str} (h : fa[i]? = some (.glo x)) : mg x = some (.ref (He.ga K x)) := by
  obtain ⟨_, X, G⟩ := F.m
  exact He.glo_ok X G (F.c.fact i h)
theorem Facts.free (F : Facts w K mg) (i : Nat) {x : Str} (h : fa[i]? = some (.free x)) : GvP P w K mg base x .free := by
  obtain ⟨_, X, G⟩ := F.m
  exact He.free_ok X G (F.c.fact i h)
theorem Facts.int (F : Facts w K mg) (n : Nat) {x : Str} {i : Int} (h : fa[n]? = some (.int x i)) : GvP P w K mg base x (.con (.int i)) := by
  obtain ⟨_, X, G⟩ := F.m
  exact gv_int (He.int_ok X G (F.c.fact n h))
theorem Facts.str (F : Facts w K mg) (n : Nat) {x z : Str} (h : fa[n]? = some (.str x z)) : GvP P w K mg base x (.con (.str z)) := by
  obtain ⟨_, X, G⟩ := F.m
  exact gv_str (He.str_ok X G (F.c.fact n h))
theorem Facts.c_ZERO (F : Facts w K mg) : GvP P w K mg base "ZERO" (.con (.tup [.int (0), .int (1)])) :=
  gv_tup (F.glo 63 rfl) (He.tupB_ok F.e) fun H => .cons (.int _) (.cons (.int _) (.nil))
end

abbrev G_common_divisor : List (Str × GV) := [("abs", .free)]
theorem sc_common_divisor : FnScope N_common_divisor ps_common_divisor (defScope s_common_divisor) := ⟨by kernel_rfl, by kernel_rfl, by kernel_rfl, by decide +kernel, by kernel_rfl, by decide +kernel, by decide +kernel⟩
theorem cs_common_divisor : cSs 200 ⟨G_common_divisor, N_common_divisor, defScope s_common_divisor, true, 0⟩ (defBody s_common_divisor) = some t_common_divisor := by kernel_rfl
theorem V_common_divisor {w : World} {K : PySem.W.Frag} {mg : Str → Option Value} {base : Heap} (F : Facts w K mg) : GvP P w K mg base "common_divisor" (.fn 1 ps_common_divisor kw_common_divisor sp_common_divisor) := by
  obtain ⟨fd, D⟩ := F.c.def_ 0 (d := d_common_divisor) (by kernel_rfl)
  refine gv_fn (fn_comp (G := G_common_divisor) D sc_common_divisor len_common_divisor (GsP.cons (F.free 47 (by kernel_rfl)) GsP.nil) cs_common_divisor hw_common_divisor) (F.glo 0 (by kernel_rfl)) D.kp (FunD.bindsN D fun _ _ _ _ _ _ us hl => match us, hl with | [_, _], _ => by kernel_rfl) ?_
  exact fun n ks perm h _ => by cases h
abbrev G_made : List (Str × GV) := [("common_divisor", .fn 1 ps_common_divisor kw_common_divisor sp_common_divisor)]
theorem sc_made : FnScope N_made ps_made (defScope s_made) := ⟨by kernel_rfl, by kernel_rfl, by kernel_rfl, by decide +kernel, by kernel_rfl, by decide +kernel, by decide +kernel⟩
theorem cs_made : cSs 200 ⟨G_made, N_made, defScope s_made, true, 1⟩ (defBody s_made) = some t_made := by kernel_rfl
theorem V_made {w : World} {K : PySem.W.Frag} {mg : Str → Option Value} {base : Heap} (F : Facts w K mg) : GvP P w K mg base "made" (.fn 2 ps_made kw_made sp_made) := by
  obtain ⟨fd, D⟩ := F.c.def_ 1 (d := d_made) (by kernel_rfl)
  refine gv_fn (fn_comp (G := G_made) D sc_made len_made (GsP.cons (V_common_divisor F) GsP.nil) cs_made hw_made) (F.glo 1 (by kernel_rfl)) D.kp (FunD.bindsN D fun _ _ _ _ _ _ us hl => match us, hl with | [_, _], _ => by kernel_rfl) ?_
  exact fun n ks perm h _ => by cases h
abbrev G_plus : List (Str × GV) := [("made", .fn 2 ps_made kw_made sp_made)]
theorem sc_plus : FnScope N_plus ps_plus (defScope s_plus) := ⟨by kernel_rfl, by kernel_rfl, by kernel_rfl, by decide +kernel, by kernel_rfl, by decide +kernel, by decide +kernel⟩
theorem cs_plus : cSs 200 ⟨G_plus, N_plus, defScope s_plus, true, 2⟩ (defBody s_plus) = some t_plus := by kernel_rfl
theorem V_plus {w : World} {K : PySem.W.Frag} {mg : Str → Option Value} {base : Heap} (F : Facts w K mg) : GvP P w K mg base "plus" (.fn 3 ps_plus kw_plus sp_plus) := by
  obtain ⟨fd, D⟩ := F.c.def_ 2 (d := d_plus) (by kernel_rfl)
  refine gv_fn (fn_comp (G := G_plus) D sc_plus len_plus (GsP.cons (V_made F) GsP.nil) cs_plus hw_plus) (F.glo 2 (by kernel_rfl)) D.kp (FunD.bindsN D fun _ _ _ _ _ _ us hl => match us, hl with | [_, _], _ => by kernel_rfl) ?_
  exact fun n ks perm h _ => by cases h
abbrev G_times : List (Str × GV) := [("made", .fn 2 ps_made kw_made sp_made)]
theorem sc_times : FnScope N_times ps_times (defScope s_times) := ⟨by kernel_rfl, by kernel_rfl, by kernel_rfl, by decide +kernel, by kernel_rfl, by decide +kernel, by decide +kernel⟩
theorem cs_times : cSs 200 ⟨G_times, N_times, defScope s_times, true, 2⟩ (defBody s_times) = some t_times := by kernel_rfl
theorem V_times {w : World} {K : PySem.W.Frag} {mg : Str → Option Value} {base : Heap} (F : Facts w K mg) : GvP P w K mg base "times" (.fn 3 ps_times kw_times sp_times) := by
  obtain ⟨fd, D⟩ := F.c.def_ 3 (d := d_times) (by kernel_rfl)
  refine gv_fn (fn_comp (G := G_times) D sc_times len_times (GsP.cons (V_made F) GsP.nil) cs_times hw_times) (F.glo 3 (by kernel_rfl)) D.kp (FunD.bindsN D fun _ _ _ _ _ _ us hl => match us, hl with | [_, _], _ => by kernel_rfl) ?_
  exact fun n ks perm h _ => by cases h
abbrev G_is_grown : List (Str × GV) := [("abs", .free), ("BIG", .con (.int (10 ^ 600)))]
theorem sc_is_grown : FnScope N_is_grown ps_is_grown (defScope s_is_grown) := ⟨by kernel_rfl, by kernel_rfl, by kernel_rfl, by decide +kernel, by kernel_rfl, by decide +kernel, by decide +kernel⟩
theorem cs_is_grown : cSs 200 ⟨G_is_grown, N_is_grown, defScope s_is_grown, true, 0⟩ (defBody s_is_grown) = some t_is_grown := by kernel_rfl
theorem V_is_grown {w : World} {K : PySem.W.Frag} {mg : Str → Option Value} {base : Heap} (F : Facts w K mg) : GvP P w K mg base "is_grown" (.fn 1 ps_is_grown kw_is_grown sp_is_grown) := by
  obtain ⟨fd, D⟩ := F.c.def_ 4 (d := d_is_grown) (by kernel_rfl)
  refine gv_fn (fn_comp (G := G_is_grown) D sc_is_grown len_is_grown (GsP.cons (F.free 47 (by kernel_rfl)) (GsP.cons (F.int 60 (by kernel_rfl)) GsP.nil)) cs_is_grown hw_is_grown) (F.glo 4 (by kernel_rfl)) D.kp (FunD.bindsN D fun _ _ _ _ _ _ us hl => match us, hl with | [_], _ => by kernel_rfl) ?_
  exact fun n ks perm h _ => by cases h
abbrev G_fit_fraction : List (Str × GV) := [("is_grown", .fn 1 ps_is_grown kw_is_grown sp_is_grown)]
theorem sc_fit_fraction : FnScope N_fit_fraction ps_fit_fraction (defScope s_fit_fraction) := ⟨by kernel_rfl, by kernel_rfl, by kernel_rfl, by decide +kernel, by kernel_rfl, by decide +kernel, by decide +kernel⟩
theorem cs_fit_fraction : cSs 200 ⟨G_fit_fraction, N_fit_fraction, defScope s_fit_fraction, true, 1⟩ (defBody s_fit_fraction) = some t_fit_fraction := by kernel_rfl
theorem V_fit_fraction {w : World} {K : PySem.W.Frag} {mg : Str → Option Value} {base : Heap} (F : Facts w K mg) : GvP P w K mg base "fit_fraction" (.fn 2 ps_fit_fraction kw_fit_fraction sp_fit_fraction) := by
  obtain ⟨fd, D⟩ := F.c.def_ 5 (d := d_fit_fraction) (by kernel_rfl)
  refine gv_fn (fn_comp (G := G_fit_fraction) D sc_fit_fraction len_fit_fraction (GsP.cons (V_is_grown F) GsP.nil) cs_fit_fraction hw_fit_fraction) (F.glo 5 (by kernel_rfl)) D.kp (FunD.bindsN D fun _ _ _ _ _ _ us hl => match us, hl with | [_], _ => by kernel_rfl) ?_
  exact fun n ks perm h _ => by cases h
abbrev G_fit_polys : List (Str × GV) := [("len", .free), ("MAX_GROWN", .con (.int (24))), ("fit_fraction", .fn 2 ps_fit_fraction kw_fit_fraction sp_fit_fraction)]
theorem sc_fit_polys : FnScope N_fit_polys ps_fit_polys (defScope s_fit_polys) := ⟨by kernel_rfl, by kernel_rfl, by kernel_rfl, by decide +kernel, by kernel_rfl, by decide +kernel, by decide +kernel⟩
theorem cs_fit_polys : cSs 200 ⟨G_fit_polys, N_fit_polys, defScope s_fit_polys, true, 2⟩ (defBody s_fit_polys) = some t_fit_polys := by kernel_rfl
theorem V_fit_polys {w : World} {K : PySem.W.Frag} {mg : Str → Option Value} {base : Heap} (F : Facts w K mg) : GvP P w K mg base "fit_polys" (.fn 3 ps_fit_polys kw_fit_polys sp_fit_polys) := by
  obtain ⟨fd, D⟩ := F.c.def_ 6 (d := d_fit_polys) (by kernel_rfl)
  refine gv_fn (fn_comp (G := G_fit_polys) D sc_fit_polys len_fit_polys (GsP.cons (F.free 53 (by kernel_rfl)) (GsP.cons (F.int 62 (by kernel_rfl)) (GsP.cons (V_fit_fraction F) GsP.nil))) cs_fit_polys hw_fit_polys) (F.glo 6 (by kernel_rfl)) D.kp (FunD.bindsN D fun _ _ _ _ _ _ us hl => match us, hl with | [_], _ => by kernel_rfl) ?_
  exact fun n ks perm h _ => by cases h
abbrev G_fit_poly : List (Str × GV) := [("fit_polys", .fn 3 ps_fit_polys kw_fit_polys sp_fit_polys)]
theorem sc_fit_poly : FnScope N_fit_poly ps_fit_poly (defScope s_fit_poly) := ⟨by kernel_rfl, by kernel_rfl, by kernel_rfl, by decide +kernel, by kernel_rfl, by decide +kernel, by decide +kernel⟩
theorem cs_fit_poly : cSs 200 ⟨G_fit_poly, N_fit_poly, defScope s_fit_poly, true, 3⟩ (defBody s_fit_poly) = some t_fit_poly := by kernel_rfl
theorem V_fit_poly {w : World} {K : PySem.W.Frag} {mg : Str → Option Value} {base : Heap} (F : Facts w K mg) : GvP P w K mg base "fit_poly" (.fn 4 ps_fit_poly kw_fit_poly sp_fit_poly) := by
  obtain ⟨fd, D⟩ := F.c.def_ 7 (d := d_fit_poly) (by kernel_rfl)
  refine gv_fn (fn_comp (G := G_fit_poly) D sc_fit_poly len_fit_poly (GsP.cons (V_fit_polys F) GsP.nil) cs_fit_poly hw_fit_poly) (F.glo 7 (by kernel_rfl)) D.kp (FunD.bindsN D fun _ _ _ _ _ _ us hl => match us, hl with | [_], _ => by kernel_rfl) ?_
  exact fun n ks perm h _ => by cases h
abbrev G_is_integer : List (Str × GV) := [("isinstance", .free), ("int", .free), ("bool", .free)]
theorem sc_is_integer : FnScope N_is_integer ps_is_integer (defScope s_is_integer) := ⟨by kernel_rfl, by kernel_rfl, by kernel_rfl, by decide +kernel, by kernel_rfl, by decide +kernel, by decide +kernel⟩
theorem cs_is_integer : cSs 200 ⟨G_is_integer, N_is_integer, defScope s_is_integer, true, 0⟩ (defBody s_is_integer) = some t_is_integer := by kernel_rfl
theorem V_is_integer {w : World} {K : PySem.W.Frag} {mg : Str → Option Value} {base : Heap} (F : Facts w K mg) : GvP P w K mg base "is_integer" (.fn 1 ps_is_integer kw_is_integer sp_is_integer) := by
  obtain ⟨fd, D⟩ := F.c.def_ 8 (d := d_is_integer) (by kernel_rfl)
  refine gv_fn (fn_comp (G := G_is_integer) D sc_is_integer len_is_integer (GsP.cons (F.free 52 (by kernel_rfl)) (GsP.cons (F.free 51 (by kernel_rfl)) (GsP.cons (F.free 49 (by kernel_rfl)) GsP.nil))) cs_is_integer hw_is_integer) (F.glo 8 (by kernel_rfl)) D.kp (FunD.bindsN D fun _ _ _ _ _ _ us hl => match us, hl with | [_], _ => by kernel_rfl) ?_
  exact fun n ks perm h _ => by cases h
abbrev G_fraction_error : List (Str × GV) := [("isinstance", .free), ("tuple", .free), ("len", .free), ("is_integer", .fn 1 ps_is_integer kw_is_integer sp_is_integer), ("common_divisor", .fn 1 ps_common_divisor kw_common_divisor sp_common_divisor)]
theorem sc_fraction_error : FnScope N_fraction_error ps_fraction_error (defScope s_fraction_error) := ⟨by kernel_rfl, by kernel_rfl, by kernel_rfl, by decide +kernel, by kernel_rfl, by decide +kernel, by decide +kernel⟩
theorem cs_fraction_error : cSs 200 ⟨G_fraction_error, N_fraction_error, defScope s_fraction_error, true, 1⟩ (defBody s_fraction_error) = some t_fraction_error := by kernel_rfl
theorem V_fraction_error {w : World} {K : PySem.W.Frag} {mg : Str → Option Value} {base : Heap} (F : Facts w K mg) : GvP P w K mg base "fraction_error" (.fn 2 ps_fraction_error kw_fraction_error sp_fraction_error) := by
  obtain ⟨fd, D⟩ := F.c.def_ 9 (d := d_fraction_error) (by kernel_rfl)
  refine gv_fn (fn_comp (G := G_fraction_error) D sc_fraction_error len_fraction_error (GsP.cons (F.free 52 (by kernel_rfl)) (GsP.cons (F.free 59 (by kernel_rfl)) (GsP.cons (F.free 53 (by kernel_rfl)) (GsP.cons (V_is_integer F) (GsP.cons (V_common_divisor F) GsP.nil))))) cs_fraction_error hw_fraction_error) (F.glo 9 (by kernel_rfl)) D.kp (FunD.bindsN D fun _ _ _ _ _ _ us hl => match us, hl with | [_], _ => by kernel_rfl) ?_
  exact fun n ks perm h _ => by cases h
abbrev G_trimmed : List (Str × GV) := [("len", .free), ("tuple", .free)]
theorem sc_trimmed : FnScope N_trimmed ps_trimmed (defScope s_trimmed) := ⟨by kernel_rfl, by kernel_rfl, by kernel_rfl, by decide +kernel, by kernel_rfl, by decide +kernel, by decide +kernel⟩
theorem cs_trimmed : cSs 200 ⟨G_trimmed, N_trimmed, defScope s_trimmed, true, 0⟩ (defBody s_trimmed) = some t_trimmed := by kernel_rfl
theorem V_trimmed {w : World} {K : PySem.W.Frag} {mg : Str → Option Value} {base : Heap} (F : Facts w K mg) : GvP P w K mg base "trimmed" (.fn 1 ps_trimmed kw_trimmed sp_trimmed) := by
  obtain ⟨fd, D⟩ := F.c.def_ 10 (d := d_trimmed) (by kernel_rfl)
  refine gv_fn (fn_comp (G := G_trimmed) D sc_trimmed len_trimmed (GsP.cons (F.free 53 (by kernel_rfl)) (GsP.cons (F.free 59 (by kernel_rfl)) GsP.nil)) cs_trimmed hw_trimmed) (F.glo 10 (by kernel_rfl)) D.kp (FunD.bindsN D fun _ _ _ _ _ _ us hl => match us, hl with | [_], _ => by kernel_rfl) ?_
  exact fun n ks perm h _ => by cases h
abbrev G_poly_plus : List (Str × GV) := [("len", .free), ("list", .free), ("enumerate", .free), ("plus", .fn 3 ps_plus kw_plus sp_plus), ("trimmed", .fn 1 ps_trimmed kw_trimmed sp_trimmed)]
theorem sc_poly_plus : FnScope N_poly_plus ps_poly_plus (defScope s_poly_plus) := ⟨by kernel_rfl, by kernel_rfl, by kernel_rfl, by decide +kernel, by kernel_rfl, by decide +kernel, by decide +kernel⟩
theorem cs_poly_plus : cSs 200 ⟨G_poly_plus, N_poly_plus, defScope s_poly_plus, true, 3⟩ (defBody s_poly_plus) = some t_poly_plus := by kernel_rfl
theorem V_poly_plus {w : World} {K : PySem.W.Frag} {mg : Str → Option Value} {base : Heap} (F : Facts w K mg) : GvP P w K mg base "poly_plus" (.fn 4 ps_poly_plus kw_poly_plus sp_poly_plus) := by
  obtain ⟨fd, D⟩ := F.c.def_ 11 (d := d_poly_plus) (by kernel_rfl)
  refine gv_fn (fn_comp (G := G_poly_plus) D sc_poly_plus len_poly_plus (GsP.cons (F.free 53 (by kernel_rfl)) (GsP.cons (F.free 54 (by kernel_rfl)) (GsP.cons (F.free 50 (by kernel_rfl)) (GsP.cons (V_plus F) (GsP.cons (V_trimmed F) GsP.nil))))) cs_poly_plus hw_poly_plus) (F.glo 11 (by kernel_rfl)) D.kp (FunD.bindsN D fun _ _ _ _ _ _ us hl => match us, hl with | [_, _], _ => by kernel_rfl) ?_
  exact fun n ks perm h _ => by cases h
abbrev G_poly_times : List (Str × GV) := [("ZERO", .con (.tup [.int (0), .int (1)])), ("len", .free), ("enumerate", .free), ("plus", .fn 3 ps_plus kw_plus sp_plus), ("times", .fn 3 ps_times kw_times sp_times), ("trimmed", .fn 1 ps_trimmed kw_trimmed sp_trimmed)]
theorem sc_poly_times : FnScope N_poly_times ps_poly_times (defScope s_poly_times) := ⟨by kernel_rfl, by kernel_rfl, by kernel_rfl, by decide +kernel, by kernel_rfl, by decide +kernel, by decide +kernel⟩
theorem cs_poly_times : cSs 200 ⟨G_poly_times, N_poly_times, defScope s_poly_times, true, 3⟩ (defBody s_poly_times) = some t_poly_times := by kernel_rfl
theorem V_poly_times {w : World} {K : PySem.W.Frag} {mg : Str → Option Value} {base : Heap} (F : Facts w K mg) : GvP P w K mg base "poly_times" (.fn 4 ps_poly_times kw_poly_times sp_poly_times) := by
  obtain ⟨fd, D⟩ := F.c.def_ 12 (d := d_poly_times) (by kernel_rfl)
  refine gv_fn (fn_comp (G := G_poly_times) D sc_poly_times len_poly_times (GsP.cons (F.c_ZERO) (GsP.cons (F.free 53 (by kernel_rfl)) (GsP.cons (F.free 50 (by kernel_rfl)) (GsP.cons (V_plus F) (GsP.cons (V_times F) (GsP.cons (V_trimmed F) GsP.nil)))))) cs_poly_times hw_poly_times) (F.glo 12 (by kernel_rfl)) D.kp (FunD.bindsN D fun _ _ _ _ _ _ us hl => match us, hl with | [_, _], _ => by kernel_rfl) ?_
  exact fun n ks perm h _ => by cases h
abbrev G_poly_by : List (Str × GV) := [("tuple", .free), ("times", .fn 3 ps_times kw_times sp_times)]
theorem sc_poly_by : FnScope N_poly_by ps_poly_by (defScope s_poly_by) := ⟨by kernel_rfl, by kernel_rfl, by kernel_rfl, by decide +kernel, by kernel_rfl, by decide +kernel, by decide +kernel⟩
theorem cs_poly_by : cSs 200 ⟨G_poly_by, N_poly_by, defScope s_poly_by, true, 3⟩ (defBody s_poly_by) = some t_poly_by := by kernel_rfl
theorem V_poly_by {w : World} {K : PySem.W.Frag} {mg : Str → Option Value} {base : Heap} (F : Facts w K mg) : GvP P w K mg base "poly_by" (.fn 4 ps_poly_by kw_poly_by sp_poly_by) := by
  obtain ⟨fd, D⟩ := F.c.def_ 13 (d := d_poly_by) (by kernel_rfl)
  refine gv_fn (fn_comp (G := G_poly_by) D sc_poly_by len_poly_by (GsP.cons (F.free 59 (by kernel_rfl)) (GsP.cons (V_times F) GsP.nil)) cs_poly_by hw_poly_by) (F.glo 13 (by kernel_rfl)) D.kp (FunD.bindsN D fun _ _ _ _ _ _ us hl => match us, hl with | [_, _], _ => by kernel_rfl) ?_
  exact fun n ks perm h _ => by cases h
abbrev G_value_at : List (Str × GV) := [("ZERO", .con (.tup [.int (0), .int (1)])), ("reversed", .free), ("plus", .fn 3 ps_plus kw_plus sp_plus), ("times", .fn 3 ps_times kw_times sp_times)]
theorem sc_value_at : FnScope N_value_at ps_value_at (defScope s_value_at) := ⟨by kernel_rfl, by kernel_rfl, by kernel_rfl, by decide +kernel, by kernel_rfl, by decide +kernel, by decide +kernel⟩
theorem cs_value_at : cSs 200 ⟨G_value_at, N_value_at, defScope s_value_at, true, 3⟩ (defBody s_value_at) = some t_value_at := by kernel_rfl
theorem V_value_at {w : World} {K : PySem.W.Frag} {mg : Str → Option Value} {base : Heap} (F : Facts w K mg) : GvP P w K mg base "value_at" (.fn 4 ps_value_at kw_value_at sp_value_at) := by
  obtain ⟨fd, D⟩ := F.c.def_ 14 (d := d_value_at) (by kernel_rfl)
  refine gv_fn (fn_comp (G := G_value_at) D sc_value_at len_value_at (GsP.cons (F.c_ZERO) (GsP.cons (F.free 58 (by kernel_rfl)) (GsP.cons (V_plus F) (GsP.cons (V_times F) GsP.nil)))) cs_value_at hw_value_at) (F.glo 14 (by kernel_rfl)) D.kp (FunD.bindsN D fun _ _ _ _ _ _ us hl => match us, hl with | [_, _], _ => by kernel_rfl) ?_
  exact fun n ks perm h _ => by cases h
abbrev G_slope_of : List (Str × GV) := [("tuple", .free), ("times", .fn 3 ps_times kw_times sp_times), ("enumerate", .free)]
theorem sc_slope_of : FnScope N_slope_of ps_slope_of (defScope s_slope_of) := ⟨by kernel_rfl, by kernel_rfl, by kernel_rfl, by decide +kernel, by kernel_rfl, by decide +kernel, by decide +kernel⟩
theorem cs_slope_of : cSs 200 ⟨G_slope_of, N_slope_of, defScope s_slope_of, true, 3⟩ (defBody s_slope_of) = some t_slope_of := by kernel_rfl
theorem V_slope_of {w : World} {K : PySem.W.Frag} {mg : Str → Option Value} {base : Heap} (F : Facts w K mg) : GvP P w K mg base "slope_of" (.fn 4 ps_slope_of kw_slope_of sp_slope_of) := by
  obtain ⟨fd, D⟩ := F.c.def_ 15 (d := d_slope_of) (by kernel_rfl)
  refine gv_fn (fn_comp (G := G_slope_of) D sc_slope_of len_slope_of (GsP.cons (F.free 59 (by kernel_rfl)) (GsP.cons (V_times F) (GsP.cons (F.free 50 (by kernel_rfl)) GsP.nil))) cs_slope_of hw_slope_of) (F.glo 15 (by kernel_rfl)) D.kp (FunD.bindsN D fun _ _ _ _ _ _ us hl => match us, hl with | [_], _ => by kernel_rfl) ?_
  exact fun n ks perm h _ => by cases h
abbrev G_poly_error : List (Str × GV) := [("isinstance", .free), ("tuple", .free), ("len", .free), ("MAX_DEGREE", .con (.int (6))), ("enumerate", .free), ("fraction_error", .fn 2 ps_fraction_error kw_fraction_error sp_fraction_error)]
theorem sc_poly_error : FnScope N_poly_error ps_poly_error (defScope s_poly_error) := ⟨by kernel_rfl, by kernel_rfl, by kernel_rfl, by decide +kernel, by kernel_rfl, by decide +kernel, by decide +kernel⟩
theorem cs_poly_error : cSs 200 ⟨G_poly_error, N_poly_error, defScope s_poly_error, true, 2⟩ (defBody s_poly_error) = some t_poly_error := by kernel_rfl
theorem V_poly_error {w : World} {K : PySem.W.Frag} {mg : Str → Option Value} {base : Heap} (F : Facts w K mg) : GvP P w K mg base "poly_error" (.fn 3 ps_poly_error kw_poly_error sp_poly_error) := by
  obtain ⟨fd, D⟩ := F.c.def_ 16 (d := d_poly_error) (by kernel_rfl)
  refine gv_fn (fn_comp (G := G_poly_error) D sc_poly_error len_poly_error (GsP.cons (F.free 52 (by kernel_rfl)) (GsP.cons (F.free 59 (by kernel_rfl)) (GsP.cons (F.free 53 (by kernel_rfl)) (GsP.cons (F.int 61 (by kernel_rfl)) (GsP.cons (F.free 50 (by kernel_rfl)) (GsP.cons (V_fraction_error F) GsP.nil)))))) cs_poly_error hw_poly_error) (F.glo 16 (by kernel_rfl)) D.kp (FunD.bindsN D fun _ _ _ _ _ _ us hl => match us, hl with | [_], _ => by kernel_rfl) ?_
  exact fun n ks perm h hp => by
    rcases List.mem_cons.mp h with h | h
    · cases h
      have e : permOf ps_poly_error 0 ["value"] = some [0] := by kernel_rfl
      cases e.symm.trans hp
      exact FunD.kbN D fun kV doc pm an cdv ct us ws h1 h2 => (match us, ws, h1, h2 with | [], [b0], _, _ => by kernel_rfl)
    · cases h

abbrev G_poly_sum : List (Str × GV) := [("fit_poly", .fn 4 ps_fit_poly kw_fit_poly sp_fit_poly), ("poly_plus", .fn 4 ps_poly_plus kw_poly_plus sp_poly_plus)]
theorem sc_poly_sum : FnScope N_poly_sum ps_poly_sum (defScope s_poly_sum) := ⟨by kernel_rfl, by kernel_rfl, by kernel_rfl, by decide +kernel, by kernel_rfl, by decide +kernel, by decide +kernel⟩
theorem cs_poly_sum : cSs 200 ⟨G_poly_sum, N_poly_sum, defScope s_poly_sum, true, 4⟩ (defBody s_poly_sum) = some t_poly_sum := by kernel_rfl
theorem V_poly_sum {w : World} {K : PySem.W.Frag} {mg : Str → Option Value} {base : Heap} (F : Facts w K mg) : GvP P w K mg base "poly_sum" (.fn 5 ps_poly_sum kw_poly_sum sp_poly_sum) := by
  obtain ⟨fd, D⟩ := F.c.def_ 17 (d := d_poly_sum) (by kernel_rfl)
  refine gv_fn (fn_comp (G := G_poly_sum) D sc_poly_sum len_poly_sum (GsP.cons (V_fit_poly F) (GsP.cons (V_poly_plus F) GsP.nil)) cs_poly_sum hw_poly_sum) (F.glo 17 (by kernel_rfl)) D.kp (FunD.bindsN D fun _ _ _ _ _ _ us hl => match us, hl with | [_, _], _ => by kernel_rfl) ?_
  exact fun n ks perm h hp => by
    rcases List.mem_cons.mp h with h | h
    · cases h
      have e : permOf ps_poly_sum 0 ["other", "one"] = some [1, 0] := by kernel_rfl
      cases e.symm.trans hp
      exact FunD.kbN D fun kV doc pm an cdv ct us ws h1 h2 => (match us, ws, h1, h2 with | [], [b0, b1], _, _ => by kernel_rfl)
    · cases h

abbrev G_poly_product : List (Str × GV) := [("fit_poly", .fn 4 ps_fit_poly kw_fit_poly sp_fit_poly), ("poly_times", .fn 4 ps_poly_times kw_poly_times sp_poly_times)]
theorem sc_poly_product : FnScope N_poly_product ps_poly_product (defScope s_poly_product) := ⟨by kernel_rfl, by kernel_rfl, by kernel_rfl, by decide +kernel, by kernel_rfl, by decide +kernel, by decide +kernel⟩
theorem cs_poly_product : cSs 200 ⟨G_poly_product, N_poly_product, defScope s_poly_product, true, 4⟩ (defBody s_poly_product) = some t_poly_product := by kernel_rfl
theorem V_poly_product {w : World} {K : PySem.W.Frag} {mg : Str → Option Value} {base : Heap} (F : Facts w K mg) : GvP P w K mg base "poly_product" (.fn 5 ps_poly_product kw_poly_product sp_poly_product) := by
  obtain ⟨fd, D⟩ := F.c.def_ 18 (d := d_poly_product) (by kernel_rfl)
  refine gv_fn (fn_comp (G := G_poly_product) D sc_poly_product len_poly_product (GsP.cons (V_fit_poly F) (GsP.cons (V_poly_times F) GsP.nil)) cs_poly_product hw_poly_product) (F.glo 18 (by kernel_rfl)) D.kp (FunD.bindsN D fun _ _ _ _ _ _ us hl => match us, hl with | [_, _], _ => by kernel_rfl) ?_
  exact fun n ks perm h hp => by
    rcases List.mem_cons.mp h with h | h
    · cases h
      have e : permOf ps_poly_product 0 ["other", "one"] = some [1, 0] := by kernel_rfl
      cases e.symm.trans hp
      exact FunD.kbN D fun kV doc pm an cdv ct us ws h1 h2 => (match us, ws, h1, h2 with | [], [b0, b1], _, _ => by kernel_rfl)
    · cases h

abbrev G_poly_scaled : List (Str × GV) := [("fit_poly", .fn 4 ps_fit_poly kw_fit_poly sp_fit_poly), ("poly_by", .fn 4 ps_poly_by kw_poly_by sp_poly_by)]
theorem sc_poly_scaled : FnScope N_poly_scaled ps_poly_scaled (defScope s_poly_scaled) := ⟨by kernel_rfl, by kernel_rfl, by kernel_rfl, by decide +kernel, by kernel_rfl, by decide +kernel, by decide +kernel⟩
theorem cs_poly_scaled : cSs 200 ⟨G_poly_scaled, N_poly_scaled, defScope s_poly_scaled, true, 4⟩ (defBody s_poly_scaled) = some t_poly_scaled := by kernel_rfl
theorem V_poly_scaled {w : World} {K : PySem.W.Frag} {mg : Str → Option Value} {base : Heap} (F : Facts w K mg) : GvP P w K mg base "poly_scaled" (.fn 5 ps_poly_scaled kw_poly_scaled sp_poly_scaled) := by
  obtain ⟨fd, D⟩ := F.c.def_ 19 (d := d_poly_scaled) (by kernel_rfl)
  refine gv_fn (fn_comp (G := G_poly_scaled) D sc_poly_scaled len_poly_scaled (GsP.cons (V_fit_poly F) (GsP.cons (V_poly_by F) GsP.nil)) cs_poly_scaled hw_poly_scaled) (F.glo 19 (by kernel_rfl)) D.kp (FunD.bindsN D fun _ _ _ _ _ _ us hl => match us, hl with | [_, _], _ => by kernel_rfl) ?_
  exact fun n ks perm h hp => by
    rcases List.mem_cons.mp h with h | h
    · cases h
      have e : permOf ps_poly_scaled 0 ["poly", "f"] = some [1, 0] := by kernel_rfl
      cases e.symm.trans hp
      exact FunD.kbN D fun kV doc pm an cdv ct us ws h1 h2 => (match us, ws, h1, h2 with | [], [b0, b1], _, _ => by kernel_rfl)
    · cases h

abbrev G_poly_at : List (Str × GV) := [("fit_fraction", .fn 2 ps_fit_fraction kw_fit_fraction sp_fit_fraction), ("value_at", .fn 4 ps_value_at kw_value_at sp_value_at)]
theorem sc_poly_at : FnScope N_poly_at ps_poly_at (defScope s_poly_at) := ⟨by kernel_rfl, by kernel_rfl, by kernel_rfl, by decide +kernel, by kernel_rfl, by decide +kernel, by decide +kernel⟩
theorem cs_poly_at : cSs 200 ⟨G_poly_at, N_poly_at, defScope s_poly_at, true, 4⟩ (defBody s_poly_at) = some t_poly_at := by kernel_rfl
theorem V_poly_at {w : World} {K : PySem.W.Frag} {mg : Str → Option Value} {base : Heap} (F : Facts w K mg) : GvP P w K mg base "poly_at" (.fn 5 ps_poly_at kw_poly_at sp_poly_at) := by
  obtain ⟨fd, D⟩ := F.c.def_ 20 (d := d_poly_at) (by kernel_rfl)
  refine gv_fn (fn_comp (G := G_poly_at) D sc_poly_at len_poly_at (GsP.cons (V_fit_fraction F) (GsP.cons (V_value_at F) GsP.nil)) cs_poly_at hw_poly_at) (F.glo 20 (by kernel_rfl)) D.kp (FunD.bindsN D fun _ _ _ _ _ _ us hl => match us, hl with | [_, _], _ => by kernel_rfl) ?_
  exact fun n ks perm h hp => by
    rcases List.mem_cons.mp h with h | h
    · cases h
      have e : permOf ps_poly_at 0 ["t", "poly"] = some [1, 0] := by kernel_rfl
      cases e.symm.trans hp
      exact FunD.kbN D fun kV doc pm an cdv ct us ws h1 h2 => (match us, ws, h1, h2 with | [], [b0, b1], _, _ => by kernel_rfl)
    · cases h

abbrev G_poly_slope : List (Str × GV) := [("fit_poly", .fn 4 ps_fit_poly kw_fit_poly sp_fit_poly), ("slope_of", .fn 4 ps_slope_of kw_slope_of sp_slope_of)]
theorem sc_poly_slope : FnScope N_poly_slope ps_poly_slope (defScope s_poly_slope) := ⟨by kernel_rfl, by kernel_rfl, by kernel_rfl, by decide +kernel, by kernel_rfl, by decide +kernel, by decide +kernel⟩
theorem cs_poly_slope : cSs 200 ⟨G_poly_slope, N_poly_slope, defScope s_poly_slope, true, 4⟩ (defBody s_poly_slope) = some t_poly_slope := by kernel_rfl
theorem V_poly_slope {w : World} {K : PySem.W.Frag} {mg : Str → Option Value} {base : Heap} (F : Facts w K mg) : GvP P w K mg base "poly_slope" (.fn 5 ps_poly_slope kw_poly_slope sp_poly_slope) := by
  obtain ⟨fd, D⟩ := F.c.def_ 21 (d := d_poly_slope) (by kernel_rfl)
  refine gv_fn (fn_comp (G := G_poly_slope) D sc_poly_slope len_poly_slope (GsP.cons (V_fit_poly F) (GsP.cons (V_slope_of F) GsP.nil)) cs_poly_slope hw_poly_slope) (F.glo 21 (by kernel_rfl)) D.kp (FunD.bindsN D fun _ _ _ _ _ _ us hl => match us, hl with | [_], _ => by kernel_rfl) ?_
  exact fun n ks perm h hp => by
    rcases List.mem_cons.mp h with h | h
    · cases h
      have e : permOf ps_poly_slope 0 ["poly"] = some [0] := by kernel_rfl
      cases e.symm.trans hp
      exact FunD.kbN D fun kV doc pm an cdv ct us ws h1 h2 => (match us, ws, h1, h2 with | [], [b0], _, _ => by kernel_rfl)
    · cases h

abbrev G__law_own_bag : List (Str × GV) := [("abs", .free), ("len", .free), ("int", .free), ("list", .free), ("reversed", .free)]
theorem sc__law_own_bag : FnScope N__law_own_bag ps__law_own_bag (defScope s__law_own_bag) := ⟨by kernel_rfl, by kernel_rfl, by kernel_rfl, by decide +kernel, by kernel_rfl, by decide +kernel, by decide +kernel⟩
theorem cs__law_own_bag : cSs 200 ⟨G__law_own_bag, N__law_own_bag, defScope s__law_own_bag, true, 0⟩ (defBody s__law_own_bag) = some t__law_own_bag := by kernel_rfl
theorem V__law_own_bag {w : World} {K : PySem.W.Frag} {mg : Str → Option Value} {base : Heap} (F : Facts w K mg) : GvP P w K mg base "_law_own_bag" (.fn 1 ps__law_own_bag kw__law_own_bag sp__law_own_bag) := by
  obtain ⟨fd, D⟩ := F.c.def_ 22 (d := d__law_own_bag) (by kernel_rfl)
  refine gv_fn (fn_comp (G := G__law_own_bag) D sc__law_own_bag len__law_own_bag (GsP.cons (F.free 47 (by kernel_rfl)) (GsP.cons (F.free 53 (by kernel_rfl)) (GsP.cons (F.free 51 (by kernel_rfl)) (GsP.cons (F.free 54 (by kernel_rfl)) (GsP.cons (F.free 58 (by kernel_rfl)) GsP.nil))))) cs__law_own_bag hw__law_own_bag) (F.glo 22 (by kernel_rfl)) D.kp (FunD.bindsN D fun _ _ _ _ _ _ us hl => match us, hl with | [_], _ => by kernel_rfl) ?_
  exact fun n ks perm h _ => by cases h
abbrev G__law_draw : List (Str × GV) := [("int", .free)]
theorem sc__law_draw : FnScope N__law_draw ps__law_draw (defScope s__law_draw) := ⟨by kernel_rfl, by kernel_rfl, by kernel_rfl, by decide +kernel, by kernel_rfl, by decide +kernel, by decide +kernel⟩
theorem cs__law_draw : cSs 200 ⟨G__law_draw, N__law_draw, defScope s__law_draw, true, 0⟩ (defBody s__law_draw) = some t__law_draw := by kernel_rfl
theorem V__law_draw {w : World} {K : PySem.W.Frag} {mg : Str → Option Value} {base : Heap} (F : Facts w K mg) : GvP P w K mg base "_law_draw" (.fn 1 ps__law_draw kw__law_draw sp__law_draw) := by
  obtain ⟨fd, D⟩ := F.c.def_ 23 (d := d__law_draw) (by kernel_rfl)
  refine gv_fn (fn_comp (G := G__law_draw) D sc__law_draw len__law_draw (GsP.cons (F.free 51 (by kernel_rfl)) GsP.nil) cs__law_draw hw__law_draw) (F.glo 23 (by kernel_rfl)) D.kp (FunD.bindsN D fun _ _ _ _ _ _ us hl => match us, hl with | [_, _], _ => by kernel_rfl) ?_
  exact fun n ks perm h _ => by cases h
abbrev G__law_pick : List (Str × GV) := [("_law_draw", .fn 1 ps__law_draw kw__law_draw sp__law_draw), ("len", .free)]
theorem sc__law_pick : FnScope N__law_pick ps__law_pick (defScope s__law_pick) := ⟨by kernel_rfl, by kernel_rfl, by kernel_rfl, by decide +kernel, by kernel_rfl, by decide +kernel, by decide +kernel⟩
theorem cs__law_pick : cSs 200 ⟨G__law_pick, N__law_pick, defScope s__law_pick, true, 1⟩ (defBody s__law_pick) = some t__law_pick := by kernel_rfl
theorem V__law_pick {w : World} {K : PySem.W.Frag} {mg : Str → Option Value} {base : Heap} (F : Facts w K mg) : GvP P w K mg base "_law_pick" (.fn 2 ps__law_pick kw__law_pick sp__law_pick) := by
  obtain ⟨fd, D⟩ := F.c.def_ 24 (d := d__law_pick) (by kernel_rfl)
  refine gv_fn (fn_comp (G := G__law_pick) D sc__law_pick len__law_pick (GsP.cons (V__law_draw F) (GsP.cons (F.free 53 (by kernel_rfl)) GsP.nil)) cs__law_pick hw__law_pick) (F.glo 24 (by kernel_rfl)) D.kp (FunD.bindsN D fun _ _ _ _ _ _ us hl => match us, hl with | [_, _], _ => by kernel_rfl) ?_
  exact fun n ks perm h _ => by cases h
abbrev G__law_is : List (Str × GV) := [("repr", .free)]
theorem sc__law_is : FnScope N__law_is ps__law_is (defScope s__law_is) := ⟨by kernel_rfl, by kernel_rfl, by kernel_rfl, by decide +kernel, by kernel_rfl, by decide +kernel, by decide +kernel⟩
theorem cs__law_is : cSs 200 ⟨G__law_is, N__law_is, defScope s__law_is, true, 0⟩ (defBody s__law_is) = some t__law_is := by kernel_rfl
theorem V__law_is {w : World} {K : PySem.W.Frag} {mg : Str → Option Value} {base : Heap} (F : Facts w K mg) : GvP P w K mg base "_law_is" (.fn 1 ps__law_is kw__law_is sp__law_is) := by
  obtain ⟨fd, D⟩ := F.c.def_ 25 (d := d__law_is) (by kernel_rfl)
  refine gv_fn (fn_comp (G := G__law_is) D sc__law_is len__law_is (GsP.cons (F.free 57 (by kernel_rfl)) GsP.nil) cs__law_is hw__law_is) (F.glo 25 (by kernel_rfl)) D.kp (FunD.bindsN D fun _ _ _ _ _ _ us hl => match us, hl with | [_, _], _ => by kernel_rfl) ?_
  exact fun n ks perm h _ => by cases h
abbrev G__law_all : List (Str × GV) := [("all", .free), ("_law_is", .fn 1 ps__law_is kw__law_is sp__law_is)]
theorem sc__law_all : FnScope N__law_all ps__law_all (defScope s__law_all) := ⟨by kernel_rfl, by kernel_rfl, by kernel_rfl, by decide +kernel, by kernel_rfl, by decide +kernel, by decide +kernel⟩
theorem cs__law_all : cSs 200 ⟨G__law_all, N__law_all, defScope s__law_all, true, 1⟩ (defBody s__law_all) = some t__law_all := by kernel_rfl
theorem V__law_all {w : World} {K : PySem.W.Frag} {mg : Str → Option Value} {base : Heap} (F : Facts w K mg) : GvP P w K mg base "_law_all" (.fn 2 ps__law_all kw__law_all sp__law_all) := by
  obtain ⟨fd, D⟩ := F.c.def_ 26 (d := d__law_all) (by kernel_rfl)
  refine gv_fn (fn_comp (G := G__law_all) D sc__law_all len__law_all (GsP.cons (F.free 48 (by kernel_rfl)) (GsP.cons (V__law_is F) GsP.nil)) cs__law_all hw__law_all) (F.glo 26 (by kernel_rfl)) D.kp (FunD.bindsN D fun _ _ _ _ _ _ us hl => match us, hl with | [_], _ => by kernel_rfl) ?_
  exact fun n ks perm h _ => by cases h
abbrev G__law_gcd : List (Str × GV) := [("abs", .free), ("int", .free)]
theorem sc__law_gcd : FnScope N__law_gcd ps__law_gcd (defScope s__law_gcd) := ⟨by kernel_rfl, by kernel_rfl, by kernel_rfl, by decide +kernel, by kernel_rfl, by decide +kernel, by decide +kernel⟩
theorem cs__law_gcd : cSs 200 ⟨G__law_gcd, N__law_gcd, defScope s__law_gcd, true, 0⟩ (defBody s__law_gcd) = some t__law_gcd := by kernel_rfl
theorem V__law_gcd {w : World} {K : PySem.W.Frag} {mg : Str → Option Value} {base : Heap} (F : Facts w K mg) : GvP P w K mg base "_law_gcd" (.fn 1 ps__law_gcd kw__law_gcd sp__law_gcd) := by
  obtain ⟨fd, D⟩ := F.c.def_ 27 (d := d__law_gcd) (by kernel_rfl)
  refine gv_fn (fn_comp (G := G__law_gcd) D sc__law_gcd len__law_gcd (GsP.cons (F.free 47 (by kernel_rfl)) (GsP.cons (F.free 51 (by kernel_rfl)) GsP.nil)) cs__law_gcd hw__law_gcd) (F.glo 27 (by kernel_rfl)) D.kp (FunD.bindsN D fun _ _ _ _ _ _ us hl => match us, hl with | [_, _], _ => by kernel_rfl) ?_
  exact fun n ks perm h _ => by cases h
abbrev G__law_frac : List (Str × GV) := [("_law_gcd", .fn 1 ps__law_gcd kw__law_gcd sp__law_gcd)]
theorem sc__law_frac : FnScope N__law_frac ps__law_frac (defScope s__law_frac) := ⟨by kernel_rfl, by kernel_rfl, by kernel_rfl, by decide +kernel, by kernel_rfl, by decide +kernel, by decide +kernel⟩
theorem cs__law_frac : cSs 200 ⟨G__law_frac, N__law_frac, defScope s__law_frac, true, 1⟩ (defBody s__law_frac) = some t__law_frac := by kernel_rfl
theorem V__law_frac {w : World} {K : PySem.W.Frag} {mg : Str → Option Value} {base : Heap} (F : Facts w K mg) : GvP P w K mg base "_law_frac" (.fn 2 ps__law_frac kw__law_frac sp__law_frac) := by
  obtain ⟨fd, D⟩ := F.c.def_ 28 (d := d__law_frac) (by kernel_rfl)
  refine gv_fn (fn_comp (G := G__law_frac) D sc__law_frac len__law_frac (GsP.cons (V__law_gcd F) GsP.nil) cs__law_frac hw__law_frac) (F.glo 28 (by kernel_rfl)) D.kp (FunD.bindsN D fun _ _ _ _ _ _ us hl => match us, hl with | [_, _], _ => by kernel_rfl) ?_
  exact fun n ks perm h _ => by cases h
abbrev G__law_plus : List (Str × GV) := [("_law_frac", .fn 2 ps__law_frac kw__law_frac sp__law_frac)]
theorem sc__law_plus : FnScope N__law_plus ps__law_plus (defScope s__law_plus) := ⟨by kernel_rfl, by kernel_rfl, by kernel_rfl, by decide +kernel, by kernel_rfl, by decide +kernel, by decide +kernel⟩
theorem cs__law_plus : cSs 200 ⟨G__law_plus, N__law_plus, defScope s__law_plus, true, 2⟩ (defBody s__law_plus) = some t__law_plus := by kernel_rfl
theorem V__law_plus {w : World} {K : PySem.W.Frag} {mg : Str → Option Value} {base : Heap} (F : Facts w K mg) : GvP P w K mg base "_law_plus" (.fn 3 ps__law_plus kw__law_plus sp__law_plus) := by
  obtain ⟨fd, D⟩ := F.c.def_ 29 (d := d__law_plus) (by kernel_rfl)
  refine gv_fn (fn_comp (G := G__law_plus) D sc__law_plus len__law_plus (GsP.cons (V__law_frac F) GsP.nil) cs__law_plus hw__law_plus) (F.glo 29 (by kernel_rfl)) D.kp (FunD.bindsN D fun _ _ _ _ _ _ us hl => match us, hl with | [_, _], _ => by kernel_rfl) ?_
  exact fun n ks perm h _ => by cases h
abbrev G__law_times : List (Str × GV) := [("_law_frac", .fn 2 ps__law_frac kw__law_frac sp__law_frac)]
theorem sc__law_times : FnScope N__law_times ps__law_times (defScope s__law_times) := ⟨by kernel_rfl, by kernel_rfl, by kernel_rfl, by decide +kernel, by kernel_rfl, by decide +kernel, by decide +kernel⟩
theorem cs__law_times : cSs 200 ⟨G__law_times, N__law_times, defScope s__law_times, true, 2⟩ (defBody s__law_times) = some t__law_times := by kernel_rfl
theorem V__law_times {w : World} {K : PySem.W.Frag} {mg : Str → Option Value} {base : Heap} (F : Facts w K mg) : GvP P w K mg base "_law_times" (.fn 3 ps__law_times kw__law_times sp__law_times) := by
  obtain ⟨fd, D⟩ := F.c.def_ 30 (d := d__law_times) (by kernel_rfl)
  refine gv_fn (fn_comp (G := G__law_times) D sc__law_times len__law_times (GsP.cons (V__law_frac F) GsP.nil) cs__law_times hw__law_times) (F.glo 30 (by kernel_rfl)) D.kp (FunD.bindsN D fun _ _ _ _ _ _ us hl => match us, hl with | [_, _], _ => by kernel_rfl) ?_
  exact fun n ks perm h _ => by cases h
abbrev G__law_minus : List (Str × GV) := []
theorem sc__law_minus : FnScope N__law_minus ps__law_minus (defScope s__law_minus) := ⟨by kernel_rfl, by kernel_rfl, by kernel_rfl, by decide +kernel, by kernel_rfl, by decide +kernel, by decide +kernel⟩
theorem cs__law_minus : cSs 200 ⟨G__law_minus, N__law_minus, defScope s__law_minus, true, 0⟩ (defBody s__law_minus) = some t__law_minus := by kernel_rfl
theorem V__law_minus {w : World} {K : PySem.W.Frag} {mg : Str → Option Value} {base : Heap} (F : Facts w K mg) : GvP P w K mg base "_law_minus" (.fn 1 ps__law_minus kw__law_minus sp__law_minus) := by
  obtain ⟨fd, D⟩ := F.c.def_ 31 (d := d__law_minus) (by kernel_rfl)
  refine gv_fn (fn_comp (G := G__law_minus) D sc__law_minus len__law_minus GsP.nil cs__law_minus hw__law_minus) (F.glo 31 (by kernel_rfl)) D.kp (FunD.bindsN D fun _ _ _ _ _ _ us hl => match us, hl with | [_], _ => by kernel_rfl) ?_
  exact fun n ks perm h _ => by cases h
abbrev G__law_trim : List (Str × GV) := [("list", .free), ("tuple", .free)]
theorem sc__law_trim : FnScope N__law_trim ps__law_trim (defScope s__law_trim) := ⟨by kernel_rfl, by kernel_rfl, by kernel_rfl, by decide +kernel, by kernel_rfl, by decide +kernel, by decide +kernel⟩
theorem cs__law_trim : cSs 200 ⟨G__law_trim, N__law_trim, defScope s__law_trim, true, 0⟩ (defBody s__law_trim) = some t__law_trim := by kernel_rfl
theorem V__law_trim {w : World} {K : PySem.W.Frag} {mg : Str → Option Value} {base : Heap} (F : Facts w K mg) : GvP P w K mg base "_law_trim" (.fn 1 ps__law_trim kw__law_trim sp__law_trim) := by
  obtain ⟨fd, D⟩ := F.c.def_ 32 (d := d__law_trim) (by kernel_rfl)
  refine gv_fn (fn_comp (G := G__law_trim) D sc__law_trim len__law_trim (GsP.cons (F.free 54 (by kernel_rfl)) (GsP.cons (F.free 59 (by kernel_rfl)) GsP.nil)) cs__law_trim hw__law_trim) (F.glo 32 (by kernel_rfl)) D.kp (FunD.bindsN D fun _ _ _ _ _ _ us hl => match us, hl with | [_], _ => by kernel_rfl) ?_
  exact fun n ks perm h _ => by cases h
abbrev G__law_poly_plus : List (Str × GV) := [("range", .free), ("max", .free), ("len", .free), ("_law_plus", .fn 3 ps__law_plus kw__law_plus sp__law_plus), ("_law_trim", .fn 1 ps__law_trim kw__law_trim sp__law_trim)]
theorem sc__law_poly_plus : FnScope N__law_poly_plus ps__law_poly_plus (defScope s__law_poly_plus) := ⟨by kernel_rfl, by kernel_rfl, by kernel_rfl, by decide +kernel, by kernel_rfl, by decide +kernel, by decide +kernel⟩
theorem cs__law_poly_plus : cSs 200 ⟨G__law_poly_plus, N__law_poly_plus, defScope s__law_poly_plus, true, 3⟩ (defBody s__law_poly_plus) = some t__law_poly_plus := by kernel_rfl
theorem V__law_poly_plus {w : World} {K : PySem.W.Frag} {mg : Str → Option Value} {base : Heap} (F : Facts w K mg) : GvP P w K mg base "_law_poly_plus" (.fn 4 ps__law_poly_plus kw__law_poly_plus sp__law_poly_plus) := by
  obtain ⟨fd, D⟩ := F.c.def_ 33 (d := d__law_poly_plus) (by kernel_rfl)
  refine gv_fn (fn_comp (G := G__law_poly_plus) D sc__law_poly_plus len__law_poly_plus (GsP.cons (F.free 56 (by kernel_rfl)) (GsP.cons (F.free 55 (by kernel_rfl)) (GsP.cons (F.free 53 (by kernel_rfl)) (GsP.cons (V__law_plus F) (GsP.cons (V__law_trim F) GsP.nil))))) cs__law_poly_plus hw__law_poly_plus) (F.glo 33 (by kernel_rfl)) D.kp (FunD.bindsN D fun _ _ _ _ _ _ us hl => match us, hl with | [_, _], _ => by kernel_rfl) ?_
  exact fun n ks perm h _ => by cases h
abbrev G__law_poly_scaled : List (Str × GV) := [("_law_trim", .fn 1 ps__law_trim kw__law_trim sp__law_trim), ("_law_times", .fn 3 ps__law_times kw__law_times sp__law_times)]
theorem sc__law_poly_scaled : FnScope N__law_poly_scaled ps__law_poly_scaled (defScope s__law_poly_scaled) := ⟨by kernel_rfl, by kernel_rfl, by kernel_rfl, by decide +kernel, by kernel_rfl, by decide +kernel, by decide +kernel⟩
theorem cs__law_poly_scaled : cSs 200 ⟨G__law_poly_scaled, N__law_poly_scaled, defScope s__law_poly_scaled, true, 3⟩ (defBody s__law_poly_scaled) = some t__law_poly_scaled := by kernel_rfl
theorem V__law_poly_scaled {w : World} {K : PySem.W.Frag} {mg : Str → Option Value} {base : Heap} (F : Facts w K mg) : GvP P w K mg base "_law_poly_scaled" (.fn 4 ps__law_poly_scaled kw__law_poly_scaled sp__law_poly_scaled) := by
  obtain ⟨fd, D⟩ := F.c.def_ 34 (d := d__law_poly_scaled) (by kernel_rfl)
  refine gv_fn (fn_comp (G := G__law_poly_scaled) D sc__law_poly_scaled len__law_poly_scaled (GsP.cons (V__law_trim F) (GsP.cons (V__law_times F) GsP.nil)) cs__law_poly_scaled hw__law_poly_scaled) (F.glo 34 (by kernel_rfl)) D.kp (FunD.bindsN D fun _ _ _ _ _ _ us hl => match us, hl with | [_, _], _ => by kernel_rfl) ?_
  exact fun n ks perm h _ => by cases h
abbrev G__law_poly_times : List (Str × GV) := [("max", .free), ("len", .free), ("enumerate", .free), ("_law_plus", .fn 3 ps__law_plus kw__law_plus sp__law_plus), ("_law_times", .fn 3 ps__law_times kw__law_times sp__law_times), ("_law_trim", .fn 1 ps__law_trim kw__law_trim sp__law_trim)]
theorem sc__law_poly_times : FnScope N__law_poly_times ps__law_poly_times (defScope s__law_poly_times) := ⟨by kernel_rfl, by kernel_rfl, by kernel_rfl, by decide +kernel, by kernel_rfl, by decide +kernel, by decide +kernel⟩
theorem cs__law_poly_times : cSs 200 ⟨G__law_poly_times, N__law_poly_times, defScope s__law_poly_times, true, 3⟩ (defBody s__law_poly_times) = some t__law_poly_times := by kernel_rfl
theorem V__law_poly_times {w : World} {K : PySem.W.Frag} {mg : Str → Option Value} {base : Heap} (F : Facts w K mg) : GvP P w K mg base "_law_poly_times" (.fn 4 ps__law_poly_times kw__law_poly_times sp__law_poly_times) := by
  obtain ⟨fd, D⟩ := F.c.def_ 35 (d := d__law_poly_times) (by kernel_rfl)
  refine gv_fn (fn_comp (G := G__law_poly_times) D sc__law_poly_times len__law_poly_times (GsP.cons (F.free 55 (by kernel_rfl)) (GsP.cons (F.free 53 (by kernel_rfl)) (GsP.cons (F.free 50 (by kernel_rfl)) (GsP.cons (V__law_plus F) (GsP.cons (V__law_times F) (GsP.cons (V__law_trim F) GsP.nil)))))) cs__law_poly_times hw__law_poly_times) (F.glo 35 (by kernel_rfl)) D.kp (FunD.bindsN D fun _ _ _ _ _ _ us hl => match us, hl with | [_, _], _ => by kernel_rfl) ?_
  exact fun n ks perm h _ => by cases h
abbrev G__law_poly_at : List (Str × GV) := [("list", .free), ("reversed", .free), ("_law_plus", .fn 3 ps__law_plus kw__law_plus sp__law_plus), ("_law_times", .fn 3 ps__law_times kw__law_times sp__law_times)]
theorem sc__law_poly_at : FnScope N__law_poly_at ps__law_poly_at (defScope s__law_poly_at) := ⟨by kernel_rfl, by kernel_rfl, by kernel_rfl, by decide +kernel, by kernel_rfl, by decide +kernel, by decide +kernel⟩
theorem cs__law_poly_at : cSs 200 ⟨G__law_poly_at, N__law_poly_at, defScope s__law_poly_at, true, 3⟩ (defBody s__law_poly_at) = some t__law_poly_at := by kernel_rfl
theorem V__law_poly_at {w : World} {K : PySem.W.Frag} {mg : Str → Option Value} {base : Heap} (F : Facts w K mg) : GvP P w K mg base "_law_poly_at" (.fn 4 ps__law_poly_at kw__law_poly_at sp__law_poly_at) := by
  obtain ⟨fd, D⟩ := F.c.def_ 36 (d := d__law_poly_at) (by kernel_rfl)
  refine gv_fn (fn_comp (G := G__law_poly_at) D sc__law_poly_at len__law_poly_at (GsP.cons (F.free 54 (by kernel_rfl)) (GsP.cons (F.free 58 (by kernel_rfl)) (GsP.cons (V__law_plus F) (GsP.cons (V__law_times F) GsP.nil)))) cs__law_poly_at hw__law_poly_at) (F.glo 36 (by kernel_rfl)) D.kp (FunD.bindsN D fun _ _ _ _ _ _ us hl => match us, hl with | [_, _], _ => by kernel_rfl) ?_
  exact fun n ks perm h _ => by cases h
abbrev G__law_poly_slope : List (Str × GV) := [("len", .free), ("tuple", .free), ("_law_times", .fn 3 ps__law_times kw__law_times sp__law_times), ("range", .free)]
theorem sc__law_poly_slope : FnScope N__law_poly_slope ps__law_poly_slope (defScope s__law_poly_slope) := ⟨by kernel_rfl, by kernel_rfl, by kernel_rfl, by decide +kernel, by kernel_rfl, by decide +kernel, by decide +kernel⟩
theorem cs__law_poly_slope : cSs 200 ⟨G__law_poly_slope, N__law_poly_slope, defScope s__law_poly_slope, true, 3⟩ (defBody s__law_poly_slope) = some t__law_poly_slope := by kernel_rfl
theorem V__law_poly_slope {w : World} {K : PySem.W.Frag} {mg : Str → Option Value} {base : Heap} (F : Facts w K mg) : GvP P w K mg base "_law_poly_slope" (.fn 4 ps__law_poly_slope kw__law_poly_slope sp__law_poly_slope) := by
  obtain ⟨fd, D⟩ := F.c.def_ 37 (d := d__law_poly_slope) (by kernel_rfl)
  refine gv_fn (fn_comp (G := G__law_poly_slope) D sc__law_poly_slope len__law_poly_slope (GsP.cons (F.free 53 (by kernel_rfl)) (GsP.cons (F.free 59 (by kernel_rfl)) (GsP.cons (V__law_times F) (GsP.cons (F.free 56 (by kernel_rfl)) GsP.nil)))) cs__law_poly_slope hw__law_poly_slope) (F.glo 37 (by kernel_rfl)) D.kp (FunD.bindsN D fun _ _ _ _ _ _ us hl => match us, hl with | [_], _ => by kernel_rfl) ?_
  exact fun n ks perm h _ => by cases h
abbrev G__law_fraction : List (Str × GV) := [("_law_draw", .fn 1 ps__law_draw kw__law_draw sp__law_draw), ("_law_frac", .fn 2 ps__law_frac kw__law_frac sp__law_frac), ("_law_pick", .fn 2 ps__law_pick kw__law_pick sp__law_pick)]
theorem sc__law_fraction : FnScope N__law_fraction ps__law_fraction (defScope s__law_fraction) := ⟨by kernel_rfl, by kernel_rfl, by kernel_rfl, by decide +kernel, by kernel_rfl, by decide +kernel, by decide +kernel⟩
theorem cs__law_fraction : cSs 200 ⟨G__law_fraction, N__law_fraction, defScope s__law_fraction, true, 2⟩ (defBody s__law_fraction) = some t__law_fraction := by kernel_rfl
theorem V__law_fraction {w : World} {K : PySem.W.Frag} {mg : Str → Option Value} {base : Heap} (F : Facts w K mg) : GvP P w K mg base "_law_fraction" (.fn 3 ps__law_fraction kw__law_fraction sp__law_fraction) := by
  obtain ⟨fd, D⟩ := F.c.def_ 38 (d := d__law_fraction) (by kernel_rfl)
  refine gv_fn (fn_comp (G := G__law_fraction) D sc__law_fraction len__law_fraction (GsP.cons (V__law_draw F) (GsP.cons (V__law_frac F) (GsP.cons (V__law_pick F) GsP.nil))) cs__law_fraction hw__law_fraction) (F.glo 38 (by kernel_rfl)) D.kp (FunD.bindsN D fun _ _ _ _ _ _ us hl => match us, hl with | [_], _ => by kernel_rfl) ?_
  exact fun n ks perm h _ => by cases h
abbrev G__law_small : List (Str × GV) := [("_law_frac", .fn 2 ps__law_frac kw__law_frac sp__law_frac), ("_law_draw", .fn 1 ps__law_draw kw__law_draw sp__law_draw)]
theorem sc__law_small : FnScope N__law_small ps__law_small (defScope s__law_small) := ⟨by kernel_rfl, by kernel_rfl, by kernel_rfl, by decide +kernel, by kernel_rfl, by decide +kernel, by decide +kernel⟩
theorem cs__law_small : cSs 200 ⟨G__law_small, N__law_small, defScope s__law_small, true, 2⟩ (defBody s__law_small) = some t__law_small := by kernel_rfl
theorem V__law_small {w : World} {K : PySem.W.Frag} {mg : Str → Option Value} {base : Heap} (F : Facts w K mg) : GvP P w K mg base "_law_small" (.fn 3 ps__law_small kw__law_small sp__law_small) := by
  obtain ⟨fd, D⟩ := F.c.def_ 39 (d := d__law_small) (by kernel_rfl)
  refine gv_fn (fn_comp (G := G__law_small) D sc__law_small len__law_small (GsP.cons (V__law_frac F) (GsP.cons (V__law_draw F) GsP.nil)) cs__law_small hw__law_small) (F.glo 39 (by kernel_rfl)) D.kp (FunD.bindsN D fun _ _ _ _ _ _ us hl => match us, hl with | [_], _ => by kernel_rfl) ?_
  exact fun n ks perm h _ => by cases h
abbrev G__law_poly : List (Str × GV) := [("_law_draw", .fn 1 ps__law_draw kw__law_draw sp__law_draw), ("_law_small", .fn 3 ps__law_small kw__law_small sp__law_small), ("range", .free), ("_law_trim", .fn 1 ps__law_trim kw__law_trim sp__law_trim)]
theorem sc__law_poly : FnScope N__law_poly ps__law_poly (defScope s__law_poly) := ⟨by kernel_rfl, by kernel_rfl, by kernel_rfl, by decide +kernel, by kernel_rfl, by decide +kernel, by decide +kernel⟩
theorem cs__law_poly : cSs 200 ⟨G__law_poly, N__law_poly, defScope s__law_poly, true, 3⟩ (defBody s__law_poly) = some t__law_poly := by kernel_rfl
theorem V__law_poly {w : World} {K : PySem.W.Frag} {mg : Str → Option Value} {base : Heap} (F : Facts w K mg) : GvP P w K mg base "_law_poly" (.fn 4 ps__law_poly kw__law_poly sp__law_poly) := by
  obtain ⟨fd, D⟩ := F.c.def_ 40 (d := d__law_poly) (by kernel_rfl)
  refine gv_fn (fn_comp (G := G__law_poly) D sc__law_poly len__law_poly (GsP.cons (V__law_draw F) (GsP.cons (V__law_small F) (GsP.cons (F.free 56 (by kernel_rfl)) (GsP.cons (V__law_trim F) GsP.nil)))) cs__law_poly hw__law_poly) (F.glo 40 (by kernel_rfl)) D.kp (FunD.bindsN D fun _ _ _ _ _ _ us hl => match us, hl with | [_, _], _ => by kernel_rfl) ?_
  exact fun n ks perm h _ => by cases h
abbrev G__law_item_fault : List (Str × GV) := [("isinstance", .free), ("tuple", .free), ("len", .free), ("all", .free), ("int", .free), ("bool", .free), ("_law_gcd", .fn 1 ps__law_gcd kw__law_gcd sp__law_gcd)]
theorem sc__law_item_fault : FnScope N__law_item_fault ps__law_item_fault (defScope s__law_item_fault) := ⟨by kernel_rfl, by kernel_rfl, by kernel_rfl, by decide +kernel, by kernel_rfl, by decide +kernel, by decide +kernel⟩
theorem cs__law_item_fault : cSs 200 ⟨G__law_item_fault, N__law_item_fault, defScope s__law_item_fault, true, 1⟩ (defBody s__law_item_fault) = some t__law_item_fault := by kernel_rfl
theorem V__law_item_fault {w : World} {K : PySem.W.Frag} {mg : Str → Option Value} {base : Heap} (F : Facts w K mg) : GvP P w K mg base "_law_item_fault" (.fn 2 ps__law_item_fault kw__law_item_fault sp__law_item_fault) := by
  obtain ⟨fd, D⟩ := F.c.def_ 41 (d := d__law_item_fault) (by kernel_rfl)
  refine gv_fn (fn_comp (G := G__law_item_fault) D sc__law_item_fault len__law_item_fault (GsP.cons (F.free 52 (by kernel_rfl)) (GsP.cons (F.free 59 (by kernel_rfl)) (GsP.cons (F.free 53 (by kernel_rfl)) (GsP.cons (F.free 48 (by kernel_rfl)) (GsP.cons (F.free 51 (by kernel_rfl)) (GsP.cons (F.free 49 (by kernel_rfl)) (GsP.cons (V__law_gcd F) GsP.nil))))))) cs__law_item_fault hw__law_item_fault) (F.glo 41 (by kernel_rfl)) D.kp (FunD.bindsN D fun _ _ _ _ _ _ us hl => match us, hl with | [_], _ => by kernel_rfl) ?_
  exact fun n ks perm h _ => by cases h
abbrev G__law_fault : List (Str × GV) := [("isinstance", .free), ("tuple", .free), ("len", .free), ("enumerate", .free), ("_law_item_fault", .fn 2 ps__law_item_fault kw__law_item_fault sp__law_item_fault)]
theorem sc__law_fault : FnScope N__law_fault ps__law_fault (defScope s__law_fault) := ⟨by kernel_rfl, by kernel_rfl, by kernel_rfl, by decide +kernel, by kernel_rfl, by decide +kernel, by decide +kernel⟩
theorem cs__law_fault : cSs 200 ⟨G__law_fault, N__law_fault, defScope s__law_fault, true, 2⟩ (defBody s__law_fault) = some t__law_fault := by kernel_rfl
theorem V__law_fault {w : World} {K : PySem.W.Frag} {mg : Str → Option Value} {base : Heap} (F : Facts w K mg) : GvP P w K mg base "_law_fault" (.fn 3 ps__law_fault kw__law_fault sp__law_fault) := by
  obtain ⟨fd, D⟩ := F.c.def_ 42 (d := d__law_fault) (by kernel_rfl)
  refine gv_fn (fn_comp (G := G__law_fault) D sc__law_fault len__law_fault (GsP.cons (F.free 52 (by kernel_rfl)) (GsP.cons (F.free 59 (by kernel_rfl)) (GsP.cons (F.free 53 (by kernel_rfl)) (GsP.cons (F.free 50 (by kernel_rfl)) (GsP.cons (V__law_item_fault F) GsP.nil))))) cs__law_fault hw__law_fault) (F.glo 42 (by kernel_rfl)) D.kp (FunD.bindsN D fun _ _ _ _ _ _ us hl => match us, hl with | [_], _ => by kernel_rfl) ?_
  exact fun n ks perm h _ => by cases h
abbrev G__law_are_judged : List (Str × GV) := [("_law_draw", .fn 1 ps__law_draw kw__law_draw sp__law_draw), ("len", .free), ("_law_pick", .fn 2 ps__law_pick kw__law_pick sp__law_pick), ("list", .free), ("poly_error", .fn 3 ps_poly_error kw_poly_error sp_poly_error), ("_law_is", .fn 1 ps__law_is kw__law_is sp__law_is), ("_law_fault", .fn 3 ps__law_fault kw__law_fault sp__law_fault)]
theorem sc__law_are_judged : FnScope N__law_are_judged ps__law_are_judged (defScope s__law_are_judged) := ⟨by kernel_rfl, by kernel_rfl, by kernel_rfl, by decide +kernel, by kernel_rfl, by decide +kernel, by decide +kernel⟩
theorem cs__law_are_judged : cSs 200 ⟨G__law_are_judged, N__law_are_judged, defScope s__law_are_judged, true, 3⟩ (defBody s__law_are_judged) = some t__law_are_judged := by kernel_rfl
theorem V__law_are_judged {w : World} {K : PySem.W.Frag} {mg : Str → Option Value} {base : Heap} (F : Facts w K mg) : GvP P w K mg base "_law_are_judged" (.fn 4 ps__law_are_judged kw__law_are_judged sp__law_are_judged) := by
  obtain ⟨fd, D⟩ := F.c.def_ 43 (d := d__law_are_judged) (by kernel_rfl)
  refine gv_fn (fn_comp (G := G__law_are_judged) D sc__law_are_judged len__law_are_judged (GsP.cons (V__law_draw F) (GsP.cons (F.free 53 (by kernel_rfl)) (GsP.cons (V__law_pick F) (GsP.cons (F.free 54 (by kernel_rfl)) (GsP.cons (V_poly_error F) (GsP.cons (V__law_is F) (GsP.cons (V__law_fault F) GsP.nil))))))) cs__law_are_judged hw__law_are_judged) (F.glo 43 (by kernel_rfl)) D.kp (FunD.bindsN D fun _ _ _ _ _ _ us hl => match us, hl with | [_, _, _], _ => by kernel_rfl) ?_
  exact fun n ks perm h _ => by cases h
abbrev G__law_are_two_right : List (Str × GV) := [("_law_pick", .fn 2 ps__law_pick kw__law_pick sp__law_pick), ("_law_small", .fn 3 ps__law_small kw__law_small sp__law_small), ("_law_fraction", .fn 3 ps__law_fraction kw__law_fraction sp__law_fraction), ("_law_poly_plus", .fn 4 ps__law_poly_plus kw__law_poly_plus sp__law_poly_plus), ("_law_poly_times", .fn 4 ps__law_poly_times kw__law_poly_times sp__law_poly_times), ("poly_sum", .fn 5 ps_poly_sum kw_poly_sum sp_poly_sum), ("poly_product", .fn 5 ps_poly_product kw_poly_product sp_poly_product), ("poly_scaled", .fn 5 ps_poly_scaled kw_poly_scaled sp_poly_scaled), ("poly_at", .fn 5 ps_poly_at kw_poly_at sp_poly_at), ("poly_slope", .fn 5 ps_poly_slope kw_poly_slope sp_poly_slope), ("_law_poly_at", .fn 4 ps__law_poly_at kw__law_poly_at sp__law_poly_at), ("_law_poly_scaled", .fn 4 ps__law_poly_scaled kw__law_poly_scaled sp__law_poly_scaled), ("_law_poly_slope", .fn 4 ps__law_poly_slope kw__law_poly_slope sp__law_poly_slope), ("_law_times", .fn 3 ps__law_times kw__law_times sp__law_times), ("_law_is", .fn 1 ps__law_is kw__law_is sp__law_is), ("_law_plus", .fn 3 ps__law_plus kw__law_plus sp__law_plus)]
theorem sc__law_are_two_right : FnScope N__law_are_two_right ps__law_are_two_right (defScope s__law_are_two_right) := ⟨by kernel_rfl, by kernel_rfl, by kernel_rfl, by decide +kernel, by kernel_rfl, by decide +kernel, by decide +kernel⟩
theorem cs__law_are_two_right : cSs 200 ⟨G__law_are_two_right, N__law_are_two_right, defScope s__law_are_two_right, true, 5⟩ (defBody s__law_are_two_right) = some t__law_are_two_right := by kernel_rfl
theorem V__law_are_two_right {w : World} {K : PySem.W.Frag} {mg : Str → Option Value} {base : Heap} (F : Facts w K mg) : GvP P w K mg base "_law_are_two_right" (.fn 6 ps__law_are_two_right kw__law_are_two_right sp__law_are_two_right) := by
  obtain ⟨fd, D⟩ := F.c.def_ 44 (d := d__law_are_two_right) (by kernel_rfl)
  refine gv_fn (fn_comp (G := G__law_are_two_right) D sc__law_are_two_right len__law_are_two_right (GsP.cons (V__law_pick F) (GsP.cons (V__law_small F) (GsP.cons (V__law_fraction F) (GsP.cons (V__law_poly_plus F) (GsP.cons (V__law_poly_times F) (GsP.cons (V_poly_sum F) (GsP.cons (V_poly_product F) (GsP.cons (V_poly_scaled F) (GsP.cons (V_poly_at F) (GsP.cons (V_poly_slope F) (GsP.cons (V__law_poly_at F) (GsP.cons (V__law_poly_scaled F) (GsP.cons (V__law_poly_slope F) (GsP.cons (V__law_times F) (GsP.cons (V__law_is F) (GsP.cons (V__law_plus F) GsP.nil)))))))))))))))) cs__law_are_two_right hw__law_are_two_right) (F.glo 44 (by kernel_rfl)) D.kp (FunD.bindsN D fun _ _ _ _ _ _ us hl => match us, hl with | [_, _, _, _], _ => by kernel_rfl) ?_
  exact fun n ks perm h _ => by cases h
abbrev G__law_are_three_right : List (Str × GV) := [("poly_sum", .fn 5 ps_poly_sum kw_poly_sum sp_poly_sum), ("poly_product", .fn 5 ps_poly_product kw_poly_product sp_poly_product), ("_law_poly_times", .fn 4 ps__law_poly_times kw__law_poly_times sp__law_poly_times), ("_law_poly_plus", .fn 4 ps__law_poly_plus kw__law_poly_plus sp__law_poly_plus), ("poly_slope", .fn 5 ps_poly_slope kw_poly_slope sp_poly_slope), ("_law_all", .fn 2 ps__law_all kw__law_all sp__law_all)]
theorem sc__law_are_three_right : FnScope N__law_are_three_right ps__law_are_three_right (defScope s__law_are_three_right) := ⟨by kernel_rfl, by kernel_rfl, by kernel_rfl, by decide +kernel, by kernel_rfl, by decide +kernel, by decide +kernel⟩
theorem cs__law_are_three_right : cSs 200 ⟨G__law_are_three_right, N__law_are_three_right, defScope s__law_are_three_right, true, 5⟩ (defBody s__law_are_three_right) = some t__law_are_three_right := by kernel_rfl
theorem V__law_are_three_right {w : World} {K : PySem.W.Frag} {mg : Str → Option Value} {base : Heap} (F : Facts w K mg) : GvP P w K mg base "_law_are_three_right" (.fn 6 ps__law_are_three_right kw__law_are_three_right sp__law_are_three_right) := by
  obtain ⟨fd, D⟩ := F.c.def_ 45 (d := d__law_are_three_right) (by kernel_rfl)
  refine gv_fn (fn_comp (G := G__law_are_three_right) D sc__law_are_three_right len__law_are_three_right (GsP.cons (V_poly_sum F) (GsP.cons (V_poly_product F) (GsP.cons (V__law_poly_times F) (GsP.cons (V__law_poly_plus F) (GsP.cons (V_poly_slope F) (GsP.cons (V__law_all F) GsP.nil)))))) cs__law_are_three_right hw__law_are_three_right) (F.glo 45 (by kernel_rfl)) D.kp (FunD.bindsN D fun _ _ _ _ _ _ us hl => match us, hl with | [_, _, _, _], _ => by kernel_rfl) ?_
  exact fun n ks perm h _ => by cases h
abbrev G_law : List (Str × GV) := [("_law_own_bag", .fn 1 ps__law_own_bag kw__law_own_bag sp__law_own_bag), ("_law_draw", .fn 1 ps__law_draw kw__law_draw sp__law_draw), ("range", .free), ("_law_poly", .fn 4 ps__law_poly kw__law_poly sp__law_poly), ("len", .free), ("_law_trim", .fn 1 ps__law_trim kw__law_trim sp__law_trim), ("list", .free), ("max", .free), ("_law_minus", .fn 1 ps__law_minus kw__law_minus sp__law_minus), ("_law_fraction", .fn 3 ps__law_fraction kw__law_fraction sp__law_fraction), ("repr", .free), ("_law_are_judged", .fn 4 ps__law_are_judged kw__law_are_judged sp__law_are_judged), ("_law_are_two_right", .fn 6 ps__law_are_two_right kw__law_are_two_right sp__law_are_two_right), ("_law_poly_scaled", .fn 4 ps__law_poly_scaled kw__law_poly_scaled sp__law_poly_scaled), ("_law_are_three_right", .fn 6 ps__law_are_three_right kw__law_are_three_right sp__law_are_three_right)]
theorem sc_law : FnScope N_law ps_law (defScope s_law) := ⟨by kernel_rfl, by kernel_rfl, by kernel_rfl, by decide +kernel, by kernel_rfl, by decide +kernel, by decide +kernel⟩
theorem cs_law : cSs 200 ⟨G_law, N_law, defScope s_law, true, 6⟩ (defBody s_law) = some t_law := by kernel_rfl
theorem fin {w : World} {K : PySem.W.Frag} {h : Heap} {mg : Str → Option Value} {fa' : Addr} (KX : K.In h) (G : h.Ns mainGlobals mg) (hmg : mg ("law" : Str) = some (.ref fa')) (c : He.SaysX fa fn [] [] ex w h K) :
    ∃ (K' : PySem.W.Frag) (fd : FuncData) (sp : SpD), K'.In h ∧ (∀ (s : Shared) (u : Value), BindsTo s fd ⟨[u], []⟩ [("script", u)]) ∧
      (∀ (ns : List Int), ns.length ≤ 63 → (∀ z ∈ ns, Builtin.Int.intBits z ≤ 1048576) → sp [.frl (ns.map Dt.int)] (fun _ => none) (fun d _ => d = .bl true) (fun _ _ => False)) ∧
      ∀ base : Heap, K'.In base → base.Ns mainGlobals mg → FnG P w K' mg base 7 fa' fd ["script"] sp := by
  have F : Facts w K mg := ⟨c.t.d, c.more, ⟨h, KX, G⟩⟩
  obtain ⟨fd, D⟩ := F.c.def_ 46 (d := d_law) (by kernel_rfl)
  have hl := F.glo 46 (x := "law") (by kernel_rfl)
  rw [hmg] at hl
  cases hl
  refine ⟨K, fd, sp_law, KX, fun s u => FunD.bindsA (ps := ["script"]) D (fun _ _ _ _ _ _ us hl => match us, hl with | [_], _ => by kernel_rfl) s [u] rfl, fun ns h1 h2 => ⟨ns, rfl, h1, fun _ => rfl⟩, fun base hb hn => ?_⟩
  exact fn_comp (G := G_law) D sc_law len_law (GsP.cons (V__law_own_bag F) (GsP.cons (V__law_draw F) (GsP.cons (F.free 56 (by kernel_rfl)) (GsP.cons (V__law_poly F) (GsP.cons (F.free 53 (by kernel_rfl)) (GsP.cons (V__law_trim F) (GsP.cons (F.free 54 (by kernel_rfl)) (GsP.cons (F.free 55 (by kernel_rfl)) (GsP.cons (V__law_minus F) (GsP.cons (V__law_fraction F) (GsP.cons (F.free 57 (by kernel_rfl)) (GsP.cons (V__law_are_judged F) (GsP.cons (V__law_are_two_right F) (GsP.cons (V__law_poly_scaled F) (GsP.cons (V__law_are_three_right F) GsP.nil))))))))))))))) cs_law hw_law
def names : List PySem.Str := (["common_divisor", "made", "plus", "times", "is_grown", "fit_fraction", "fit_polys", "fit_poly", "is_integer", "fraction_error", "trimmed", "poly_plus", "poly_times", "poly_by", "value_at", "slope_of", "poly_error", "poly_sum", "poly_product", "poly_scaled", "poly_at", "poly_slope", "_law_own_bag", "_law_draw", "_law_pick", "_law_is", "_law_all", "_law_gcd", "_law_frac", "_law_plus"] : List PySem.Str) ++ (["_law_times", "_law_minus", "_law_trim", "_law_poly_plus", "_law_poly_scaled", "_law_poly_times", "_law_poly_at", "_law_poly_slope", "_law_fraction", "_law_small", "_law_poly", "_law_item_fault", "_law_fault", "_law_are_judged", "_law_are_two_right", "_law_are_three_right", "MAX_DEGREE", "MAX_FIGURES", "MAX_GROWN", "BIG", "ZERO", "NewError", "TooMany"] : List PySem.Str)
theorem run (w : World) : HandSHeadRun.RunEq R (PySem.W.view R.prog [58]) hk ob 6000 names w := by
  intro os
  kernel_rfl
end K02

open PySem PySem.W PySem.Calls PyProof.Rows in
theorem PySem.Challenge.cw_evernew_k02_whole_polynomials_holds : PySem.Challenge.rw_evernew_k02_whole_polynomials.Holds := by
  w_on; o_law
  refine HandSHeadRun.head_any (r := OpenLaw.row PySem.Challenge.rw_evernew_k02_whole_polynomials) (q := view (OpenLaw.row PySem.Challenge.rw_evernew_k02_whole_polynomials).prog [58]) (H := K02.hk) (ob := K02.ob) (M := 6000) (loose := K02.names) (d := HandSHeadRun.topDef (OpenLaw.row PySem.Challenge.rw_evernew_k02_whole_polynomials).prog 58) (kwd := []) K02.ob_eq
    (by kernel_rfl) (fun s => by kernel_rfl) K02.run (by kernel_rfl) (by kernel_rfl) (by kernel_rfl) (by rfl) (by first | assumption | decide +kernel) (by decide +kernel) ⟨rfl, rfl, rfl, rfl, rfl, by decide +kernel⟩ ?hw ?hc
  case hw => w_witness2
  case hc =>
    refine Ev.walk_g (l := PySem.Challenge.rw_evernew_k02_whole_polynomials) (n := 63) (k := 7) (x := "script") rfl (by decide) (by kernel_rfl) (Ev.groom_caller (by decide)) ?F
    intro w mg fa h Y G hmg0
    obtain ⟨K, KX, c⟩ := Y
    have hmg : mg ("law" : PySem.Str) = some (.ref fa) := by
      have e : (HandSHeadRun.topDef (OpenLaw.row PySem.Challenge.rw_evernew_k02_whole_polynomials).prog 58).name = ("law" : PySem.Str) := by kernel_rfl
      rw [← e]
      exact hmg0
    exact K02.fin KX G hmg c
