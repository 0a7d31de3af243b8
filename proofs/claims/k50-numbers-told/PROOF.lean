import PyProof.Rows.All
import Wide.All
import OpenK.AllK
import Wide.FinOn
import HandS.ForMost
import HandS.Exc
import HandS.TryMany
import HandS.ExcInit
import HandS.ExcField
import HandS.ExcOwn
import HandS.CallSlots
import HandS.WordsExc
import HandS.Flow
import HandS.Wide
import HandS.Walk
import HandS.TupMul
import HandS.TupAny
import HandS.IsInst
import HandS.Style
import HandS.Conv
import HandS.TupLe
import HandS.SortInts
import HandS.WordsDict
import HandS.More
import HandS.Rev
import HandS.RevRange
import HandS.Zip
import PySem.Challenge.RW_upforgood_k50_numbers_told_at_once
set_option Elab.async false
set_option linter.all false
set_option maxRecDepth 100000
set_option autoImplicit false
namespace PM
open PySem PySem.Spec PyProof.Rows L2

/-! ## plain part: values, objects, results -/
inductive U where
  | non | bl (b : Bool) | int (i : Int) | str (x : Str) | obj (n : Nat)
  deriving DecidableEq, Inhabited
inductive O where
  | lst (xs : List U) | frz (xs : List U) | tup (xs : List U) | dct (kvs : List (Key × U)) | ins (c : Nat) (fs : List (Nat × U)) | xd (fs : List (Nat × U))
  deriving DecidableEq, Inhabited
abbrev G := List O
inductive Res (α : Type) where
  | ok (a : α) (g : G) | exc (c : Nat) (d : Option Nat) (g : G) | stuck
abbrev M (α : Type) := G → Res α
/-- a primitive: no exceptions -/
abbrev Op (α : Type) := G → Option (α × G)
def lift {α : Type} (p : Op α) : M α := fun g => match p g with | some (a, g') => .ok a g' | none => .stuck
def ret {α : Type} (a : α) : M α := fun g => .ok a g
def bnd {α β : Type} (x : Res α) (f : α → M β) : Res β := match x with | .ok a g => f a g | .exc c d g => .exc c d g | .stuck => .stuck
abbrev Sl := List (Option U)
abbrev E := Sl → M U
abbrev T := Sl → M Bool
abbrev A := Sl → M (List U)

/-! ## the relation to the hand layer's heap -/
structure Names where
  cad : Nat → Addr
  fld : Nat → Str
def RV (m : List Addr) (u : U) (v : V) : Prop := match u with
  | .non => v = .non
  | .bl b => v = .bl b
  | .int i => v = .int i
  | .str x => v = .str x
  | .obj n => ∃ a, m[n]? = some a ∧ v = .ref a
abbrev RVs (m : List Addr) : List U → List V → Prop := Paired (RV m)
def RKV (m : List Addr) : List (Key × U) → List (Key × V) → Prop := Paired fun p q => p.1 = q.1 ∧ RV m p.2 q.2
def RFs (C : Names) (m : List Addr) : List (Nat × U) → List (Str × V) → Prop := Paired fun p q => C.fld p.1 = q.1 ∧ RV m p.2 q.2
def RO (C : Names) (m : List Addr) (o : O) (a : Addr) (H : Hp) : Prop := match o with
  | .lst xs => ∃ vs, H a = some (.lst vs) ∧ RVs m xs vs
  | .frz xs => ∃ ob vs, H a = some (.frz ob (.lst vs)) ∧ RVs m xs vs
  | .tup xs => ∃ vs, H a = some (.tup vs) ∧ RVs m xs vs
  | .dct kvs => ∃ vs, H a = some (.dK vs) ∧ RKV m kvs vs
  | .ins c fs => ∃ dx vs, H a = some (.ins (C.cad c) dx vs) ∧ RFs C m fs vs
  | .xd fs => ∃ vs, H a = some (.xd vs) ∧ RFs C m fs vs
structure Rel (C : Names) (m : List Addr) (g : G) (H : Hp) : Prop where
  len : m.length = g.length
  nd : m.Nodup
  at_ : ∀ (n : Nat) (a : Addr) (o : O), m[n]? = some a → g[n]? = some o → RO C m o a H
structure Ext (m : List Addr) (H : Hp) (m' : List Addr) (H' : Hp) : Prop where
  pre : ∀ (n : Nat) (a : Addr), m[n]? = some a → m'[n]? = some a
  new : ∀ a, a ∈ m' → a ∈ m ∨ H a = none
  fr : ∀ a o, H a = some o → a ∉ m → H' a = some o
theorem Ext.refl (m : List Addr) (H : Hp) : Ext m H m H := ⟨fun _ _ h => h, fun _ h => .inl h, fun _ _ h _ => h⟩
theorem Ext.trans {m m1 m2 : List Addr} {H H1 H2 : Hp} (x : Ext m H m1 H1) (y : Ext m1 H1 m2 H2) : Ext m H m2 H2 := by
  refine ⟨fun n a h => y.pre n a (x.pre n a h), fun a h => ?_, fun a o h hm => ?_⟩
  · rcases y.new a h with h1 | h1
    · exact x.new a h1
    · by_cases hm : a ∈ m
      · exact .inl hm
      · right
        cases e : H a with
        | none => rfl
        | some o => rw [x.fr a o e hm] at h1; cases h1
  · refine y.fr a o (x.fr a o h hm) fun h1 => ?_
    rcases x.new a h1 with h2 | h2
    · exact hm h2
    · rw [h] at h2; cases h2
theorem RV.ext {m m' : List Addr} {u : U} {v : V} (p : ∀ (n : Nat) (a : Addr), m[n]? = some a → m'[n]? = some a) (h : RV m u v) : RV m' u v := by
  cases u with
  | obj n => obtain ⟨a, h1, h2⟩ := h; exact ⟨a, p n a h1, h2⟩
  | _ => exact h
theorem Paired.imp' {α β : Type} {F F' : α → β → Prop} (p : ∀ a b, F a b → F' a b) : ∀ {xs : List α} {ys : List β}, Paired F xs ys → Paired F' xs ys
  | _, _, .nil => .nil
  | _, _, .cons r t => .cons (p _ _ r) (Paired.imp' p t)
theorem RVs.ext {m m' : List Addr} {us : List U} {vs : List V} (p : ∀ (n : Nat) (a : Addr), m[n]? = some a → m'[n]? = some a) (h : RVs m us vs) : RVs m' us vs := Paired.imp' (fun _ _ r => r.ext p) h
theorem RKV.ext {m m' : List Addr} {us : List (Key × U)} {vs : List (Key × V)} (p : ∀ (n : Nat) (a : Addr), m[n]? = some a → m'[n]? = some a) (h : RKV m us vs) : RKV m' us vs := Paired.imp' (fun _ _ r => ⟨r.1, r.2.ext p⟩) h
theorem RFs.ext {C : Names} {m m' : List Addr} {us : List (Nat × U)} {vs : List (Str × V)} (p : ∀ (n : Nat) (a : Addr), m[n]? = some a → m'[n]? = some a) (h : RFs C m us vs) : RFs C m' us vs := Paired.imp' (fun _ _ r => ⟨r.1, r.2.ext p⟩) h
theorem RO.ext {C : Names} {m m' : List Addr} {o : O} {a : Addr} {H H' : Hp} (p : ∀ (n : Nat) (a : Addr), m[n]? = some a → m'[n]? = some a) (e : ∀ o, H a = some o → H' a = some o) (h : RO C m o a H) : RO C m' o a H' := by
  cases o with
  | lst xs => obtain ⟨vs, h1, h2⟩ := h; exact ⟨vs, e _ h1, h2.ext p⟩
  | frz xs => obtain ⟨ob, vs, h1, h2⟩ := h; exact ⟨ob, vs, e _ h1, h2.ext p⟩
  | tup xs => obtain ⟨vs, h1, h2⟩ := h; exact ⟨vs, e _ h1, h2.ext p⟩
  | dct xs => obtain ⟨vs, h1, h2⟩ := h; exact ⟨vs, e _ h1, h2.ext p⟩
  | ins c fs => obtain ⟨dx, vs, h1, h2⟩ := h; exact ⟨dx, vs, e _ h1, h2.ext p⟩
  | xd fs => obtain ⟨vs, h1, h2⟩ := h; exact ⟨vs, e _ h1, h2.ext p⟩
theorem RO.there {C : Names} {m : List Addr} {o : O} {a : Addr} {H : Hp} (h : RO C m o a H) : ∃ u, H a = some u := by
  cases o with
  | lst xs => obtain ⟨vs, h1, h2⟩ := h; exact ⟨_, h1⟩
  | frz xs => obtain ⟨ob, vs, h1, h2⟩ := h; exact ⟨_, h1⟩
  | tup xs => obtain ⟨vs, h1, h2⟩ := h; exact ⟨_, h1⟩
  | dct xs => obtain ⟨vs, h1, h2⟩ := h; exact ⟨_, h1⟩
  | ins c fs => obtain ⟨dx, vs, h1, h2⟩ := h; exact ⟨_, h1⟩
  | xd fs => obtain ⟨vs, h1, h2⟩ := h; exact ⟨_, h1⟩
section
variable {C : Names} {m : List Addr} {g : G} {H : Hp}
theorem Rel.lt (r : Rel C m g H) {n : Nat} {a : Addr} (h : m[n]? = some a) : n < g.length := by
  have := (List.getElem?_eq_some_iff.mp h).1; have := r.len; omega
theorem Rel.get (r : Rel C m g H) {n : Nat} {a : Addr} (h : m[n]? = some a) : ∃ o, g[n]? = some o ∧ RO C m o a H := by
  have hl := r.lt h
  exact ⟨g[n], List.getElem?_eq_getElem hl, r.at_ n a _ h (List.getElem?_eq_getElem hl)⟩
theorem Rel.addr (r : Rel C m g H) {n : Nat} {o : O} (h : g[n]? = some o) : ∃ a, m[n]? = some a ∧ RO C m o a H := by
  have h1 := (List.getElem?_eq_some_iff.mp h).1
  have hl := r.len
  have h2 : n < m.length := by omega
  exact ⟨m[n], List.getElem?_eq_getElem h2, r.at_ n _ o (List.getElem?_eq_getElem h2) h⟩
theorem Rel.mem (r : Rel C m g H) {a : Addr} (h : a ∈ m) : ∃ u, H a = some u := by
  obtain ⟨n, hn, e⟩ := List.getElem_of_mem h
  obtain ⟨o, _, ro⟩ := r.get (show m[n]? = some a by rw [List.getElem?_eq_getElem hn, e])
  exact ro.there
theorem getElem?_snoc {α : Type} {xs : List α} {y : α} {n : Nat} {a : α} (h : xs[n]? = some a) : (xs ++ [y])[n]? = some a := by
  rw [List.getElem?_append_left (List.getElem?_eq_some_iff.mp h).1]; exact h
/-- a new object -/
theorem Rel.push (r : Rel C m g H) {p : Addr} {ho : HO} {o : O} (hp : H p = none) (ro : RO C (m ++ [p]) o p (upd H p ho)) : Rel C (m ++ [p]) (g ++ [o]) (upd H p ho) ∧ Ext m H (m ++ [p]) (upd H p ho) := by
  have np : p ∉ m := fun h => by obtain ⟨u, e⟩ := r.mem h; rw [hp] at e; cases e
  refine ⟨⟨by simp [r.len], ?_, fun n a o' h1 h2 => ?_⟩, ⟨fun n a h => getElem?_snoc h, fun a h => ?_, fun a o' h _ => ?_⟩⟩
  · rw [List.nodup_append]
    refine ⟨r.nd, by simp, fun a ha b hb => ?_⟩
    rw [List.mem_singleton] at hb
    rintro rfl
    exact np (hb ▸ ha)
  · have hl := r.len
    by_cases hn : n < m.length
    · rw [List.getElem?_append_left hn] at h1
      rw [List.getElem?_append_left (by omega)] at h2
      refine (r.at_ n a o' h1 h2).ext (fun n a h => getElem?_snoc h) fun u e => ?_
      rw [upd_ne (ne_of_none e hp)]; exact e
    · have h1' := (List.getElem?_eq_some_iff.mp h1).1
      rw [List.length_append, List.length_singleton] at h1'
      have en : n = m.length := by omega
      subst en
      rw [List.getElem?_concat_length] at h1
      rw [hl, List.getElem?_concat_length] at h2
      cases h1; cases h2
      exact ro
  · rw [List.mem_append, List.mem_singleton] at h
    rcases h with h | h
    · exact .inl h
    · exact .inr (h ▸ hp)
  · rw [upd_ne (ne_of_none h hp)]; exact h
/-- an object is changed -/
theorem Rel.put (r : Rel C m g H) {n : Nat} {a : Addr} {ho : HO} {o : O} (hn : m[n]? = some a) (ro : RO C m o a (upd H a ho)) : Rel C m (g.set n o) (upd H a ho) ∧ Ext m H m (upd H a ho) := by
  have hl := r.lt hn
  refine ⟨⟨by simp [r.len], r.nd, fun k b o' h1 h2 => ?_⟩, ⟨fun _ _ h => h, fun _ h => .inl h, fun b o' h hb => ?_⟩⟩
  · by_cases hk : k = n
    · subst hk
      rw [hn] at h1; cases h1
      rw [List.getElem?_set_self hl] at h2; cases h2
      exact ro
    · rw [List.getElem?_set_ne (Ne.symm hk)] at h2
      have hne : b ≠ a := fun e => hk (by
        subst e
        obtain ⟨q1, q2⟩ := List.getElem?_eq_some_iff.mp h1
        obtain ⟨q3, q4⟩ := List.getElem?_eq_some_iff.mp hn
        exact (List.getElem_inj r.nd).mp (q2.trans q4.symm))
      refine (r.at_ k b o' h1 h2).ext (fun _ _ h => h) fun u e => ?_
      rw [upd_ne hne]; exact e
  · have hne : b ≠ a := fun e => hb (by subst e; exact List.mem_of_getElem? hn)
    rw [upd_ne hne]; exact h
end
/-- what is wanted behind a result -/
def Post {α β : Type} (C : Names) (R : List Addr → α → β → Prop) (m : List Addr) (H : Hp) (W : Value → Option Addr → Hp → Prop) (Q : β → Hp → Prop) (r : Res α) : Prop := match r with
  | .ok u g' => ∀ m' H' v, Ext m H m' H' → Rel C m' g' H' → R m' u v → Q v H'
  | .exc c d g' => ∀ m' H' a, Ext m H m' H' → Rel C m' g' H' → (match d with | none => a = none | some n => ∃ b, m'[n]? = some b ∧ a = some b) → W (.ref (C.cad c)) a H'
  | .stuck => False
def PostP {α β : Type} (C : Names) (R : List Addr → α → β → Prop) (m : List Addr) (H : Hp) (Q : β → Hp → Prop) (r : Option (α × G)) : Prop := match r with
  | some (u, g') => ∀ m' H' v, Ext m H m' H' → Rel C m' g' H' → R m' u v → Q v H'
  | none => False
section
variable {α β γ δ : Type} {C : Names} {R : List Addr → α → β → Prop} {R2 : List Addr → γ → δ → Prop} {m m1 : List Addr} {H H1 : Hp} {W W' : Value → Option Addr → Hp → Prop} {Q Q' : β → Hp → Prop} {Q2 : δ → Hp → Prop}
theorem Post.back {r : Res α} (x : Ext m H m1 H1) (p : Post C R m H W Q r) : Post C R m1 H1 W Q r := by
  cases r with
  | ok u g => exact fun m' H' v x' => p m' H' v (x.trans x')
  | exc c d g => exact fun m' H' a x' => p m' H' a (x.trans x')
  | stuck => exact p
theorem Post.imp {r : Res α} (p : Post C R m H W Q r) (h : ∀ v H', Q v H' → Q' v H') : Post C R m H W Q' r := by
  cases r with
  | ok u g => exact fun m' H' v x' r' rv => h v H' (p m' H' v x' r' rv)
  | exc c d g => exact p
  | stuck => exact p
theorem PostP.back {r : Option (α × G)} (x : Ext m H m1 H1) (p : PostP C R m H Q r) : PostP C R m1 H1 Q r := by
  cases r with
  | some u => obtain ⟨u, g⟩ := u; exact fun m' H' v x' => p m' H' v (x.trans x')
  | none => exact p
/-- the state behind a first part, from which the second goes on -/
def Then (C : Names) (R : List Addr → α → β → Prop) (R2 : List Addr → γ → δ → Prop) (m : List Addr) (H : Hp) (W : Value → Option Addr → Hp → Prop) (Q : δ → Hp → Prop) (f : α → M γ) (b : β) (H1 : Hp) : Prop :=
  ∃ a m1 g1, Ext m H m1 H1 ∧ Rel C m1 g1 H1 ∧ R m1 a b ∧ Post C R2 m1 H1 W Q (f a g1)
theorem Post.bnd {x : Res α} {f : α → M γ} (p : Post C R2 m H W Q2 (bnd x f)) : Post C R m H W (Then C R R2 m H W Q2 f) x := by
  cases x with
  | ok u g => exact fun m' H' v x' r' rv => ⟨u, m', g, x', r', rv, Post.back x' p⟩
  | exc c d g => exact p
  | stuck => exact p
theorem Post.lift {p : Op α} {g : G} (h : Post C R m H W Q (lift p g)) : PostP C R m H Q (p g) := by
  unfold PM.lift at h
  cases e : p g with
  | none => rw [e] at h; exact h
  | some u => obtain ⟨u, g'⟩ := u; rw [e] at h; exact h
end
end PM

set_option Elab.async false
set_option linter.all false
set_option maxRecDepth 100000
set_option maxHeartbeats 4000000
set_option autoImplicit false
namespace PM
open PySem PySem.Spec PyProof.Rows L2
theorem tuple_mulS (l : Addr) (items : Array Value) (n : Nat) (dd : Option Addr) (sl : Array (Option Value)) (x : Int) (u : Tok) (c0 : (decide (x < -(2 ^ 63)) || decide (x ≥ 2 ^ 63)) = false) (c1 : (items.isEmpty || x == 1) = true) :
    Meets (Builtin.«tuple.__mul__» ⟨[.ref l, .int x u], []⟩) (fun _ R s => s.heap.get? l = some { cls := .type "tuple", dict := dd, data := .seq items n, slots := sl } ∧ R (.ok (.ret (Value.ref l))) s) :=
  .of_wp fun prog w A R s h => by
    obtain ⟨hp, g, d, tk, os⟩ := s
    obtain ⟨hl, h⟩ := h
    have f1 := AutoSeq1.idx_int
    wp_walk using wpAny_loadPart' hl
    repeat (first
      | (refine wpAny_ite_false (decide_eq_false (by rw [c0]; exact Bool.false_ne_true)) ?_; wp_walk using wpAny_loadPart' hl)
      | (refine wpAny_ite_true (decide_eq_true c1) ?_; wp_walk using wpAny_loadPart' hl))
    exact ⟨_, rfl, h⟩
theorem tuple_mul0 (l : Addr) (items : Array Value) (n : Nat) (dd : Option Addr) (sl : Array (Option Value)) (x : Int) (u : Tok) (c0 : (decide (x < -(2 ^ 63)) || decide (x ≥ 2 ^ 63)) = false) (c1 : (items.isEmpty || x == 1) = false) (c2 : (decide (x ≤ 0) || items.isEmpty) = true) :
    Meets (Builtin.«tuple.__mul__» ⟨[.ref l, .int x u], []⟩) (fun _ R s => s.heap.get? l = some { cls := .type "tuple", dict := dd, data := .seq items n, slots := sl } ∧
      R (.ok (.ret (Value.ref s.heap.objs.size))) { s with heap := s.heap.push { cls := Value.type "tuple", data := Data.seq #[] }, toks := s.toks }) :=
  .of_wp fun prog w A R s h => by
    obtain ⟨hp, g, d, tk, os⟩ := s
    obtain ⟨hl, h⟩ := h
    have f1 := AutoSeq1.idx_int
    wp_walk using wpAny_loadPart' hl
    repeat (first
      | (refine wpAny_ite_false (decide_eq_false (by rw [c0]; exact Bool.false_ne_true)) ?_; wp_walk using wpAny_loadPart' hl)
      | (refine wpAny_ite_false (decide_eq_false (by rw [c1]; exact Bool.false_ne_true)) ?_; wp_walk using wpAny_loadPart' hl)
      | (refine wpAny_ite_true (decide_eq_true c2) ?_; wp_walk using wpAny_loadPart' hl))
    exact ⟨_, rfl, h⟩
section
variable {X : Cx}
def rRepT1 (K : PySem.W.Frag) : R2 := fun x y H Q => ∃ l k xs, x = .ref l ∧ y = .int k ∧ SqT K H l xs ∧ -(2 ^ 63) ≤ k ∧ k < 2 ^ 63 ∧ (xs = [] ∨ k = 1) ∧ Q (.ref l) H
def rRepT0 (K : PySem.W.Frag) : R2 := fun x y H Q => ∃ l k xs, x = .ref l ∧ y = .int k ∧ SqT K H l xs ∧ xs ≠ [] ∧ -(2 ^ 63) ≤ k ∧ k ≤ 0 ∧ ∀ p, H p = none → Q (.ref p) (upd H p (.tup []))
theorem op_repT1 : OpR X (binaryOp .Mult) (rRepT1 X.K) := by
  intro pins s σ H x y v u Q I rx ry h
  obtain ⟨l, k, xs, rfl, rfl, hT, h1, h2, hz, q⟩ := h
  cases rx
  obtain ⟨t, rfl⟩ := ry
  obtain ⟨its, r, ⟨⟨cls, dd, data, sl⟩, ho, hc, n, hd⟩, hs⟩ := I.tuple hT
  simp only at hc hd
  subst hc hd
  have hle : its.length = xs.length := r.length.symm
  have c0 : (decide (k < -(2 ^ 63)) || decide (k ≥ 2 ^ 63)) = false := by
    rw [decide_eq_false (by omega), decide_eq_false (by omega)] <;> rfl
  have c1 : (its.toArray.isEmpty || k == 1) = true := by
    rcases hz with rfl | rfl
    · have : its = [] := List.eq_nil_of_length_eq_zero (by rw [hle]; rfl)
      subst this; rfl
    · simp
  refine wpAny_binaryOp_repeat_ref (T := "tuple") (U := "int") (by decide) ⟨_, ho, rfl⟩ (fun s' => typeIs_int s' k t) noFill_tuple_mul F.fills_int_mul F.slot_int_rmul repeat_tuple F.slot_int_index.lookup
    (call_meets F.slot_int_rmul (typeIs_int s k t) F.entry_int_rmul (F.args_int_rmul_2 _ _) (int_rmul_tuple k t l its.toArray n dd sl)
      ⟨ho, rfl, ⟨_, ho, rfl⟩, call_meets F.slot_tuple_mul ⟨_, ho, rfl⟩ F.entry_tuple_mul (F.args_tuple_mul_2 _ _) (tuple_mulS l its.toArray n dd sl k t c0 c1) ⟨ho, ?_⟩⟩)
  exact ⟨.ref l, H, I, rfl, q⟩
theorem op_repT0 : OpR X (binaryOp .Mult) (rRepT0 X.K) := by
  intro pins s σ H x y v u Q I rx ry h
  obtain ⟨l, k, xs, rfl, rfl, hT, hne, h1, h2, q⟩ := h
  cases rx
  obtain ⟨t, rfl⟩ := ry
  obtain ⟨its, r, ⟨⟨cls, dd, data, sl⟩, ho, hc, n, hd⟩, hs⟩ := I.tuple hT
  simp only at hc hd
  subst hc hd
  have hle : its.length = xs.length := r.length.symm
  have hn : its ≠ [] := fun e => hne (by
    rw [e] at hle
    exact List.eq_nil_of_length_eq_zero hle.symm)
  have hi : its.toArray.isEmpty = false := by
    cases its with
    | nil => exact absurd rfl hn
    | cons a b => rfl
  have c0 : (decide (k < -(2 ^ 63)) || decide (k ≥ 2 ^ 63)) = false := by
    rw [decide_eq_false (by omega), decide_eq_false (by omega)] <;> rfl
  have c1 : (its.toArray.isEmpty || k == 1) = false := by
    rw [hi, Bool.false_or]
    exact beq_eq_false_iff_ne.mpr (by omega)
  have c2 : (decide (k ≤ 0) || its.toArray.isEmpty) = true := by
    rw [decide_eq_true h2]; rfl
  refine wpAny_binaryOp_repeat_ref (T := "tuple") (U := "int") (by decide) ⟨_, ho, rfl⟩ (fun s' => typeIs_int s' k t) noFill_tuple_mul F.fills_int_mul F.slot_int_rmul repeat_tuple F.slot_int_index.lookup
    (call_meets F.slot_int_rmul (typeIs_int s k t) F.entry_int_rmul (F.args_int_rmul_2 _ _) (int_rmul_tuple k t l its.toArray n dd sl)
      ⟨ho, rfl, ⟨_, ho, rfl⟩, call_meets F.slot_tuple_mul ⟨_, ho, rfl⟩ F.entry_tuple_mul (F.args_tuple_mul_2 _ _) (tuple_mul0 l its.toArray n dd sl k t c0 c1 c2) ⟨ho, ?_⟩⟩)
  refine ⟨.ref s.heap.objs.size, _, I.laid (t' := s.toks) (o := .tup []) (fun b ob q => Heap.get?_push_of_some _ q) (Nat.le_refl _) ?_, rfl, q _ (I.hok.fresh (Nat.le_refl _))⟩
  exact ⟨by rw [sizeLine_eq]; exact Nat.zero_le _, _, .nil, IsTup.new _ _⟩
end
end PM

set_option Elab.async false
set_option linter.all false
set_option maxRecDepth 100000
set_option autoImplicit false
namespace PM
open PySem PySem.Spec PyProof.Rows L2

/-! ## primitives -/
def seqAt (g : G) (n : Nat) : Option (Bool × List U) := match g[n]? with
  | some (.lst xs) => some (false, xs)
  | some (.frz xs) => some (false, xs)
  | some (.tup xs) => some (true, xs)
  | _ => none
def push (g : G) (o : O) : Option (U × G) := some (.obj g.length, g ++ [o])
def uAdd (x y : U) : Op U := fun g => match x, y with
  | .int i, .int j => some (.int (i + j), g)
  | .str a, .str b => if a.length + b.length ≤ sizeLine then some (.str (a ++ b), g) else none
  | .obj a, .obj b => match g[a]?, g[b]? with
    | some (.lst xs), some (.lst ys) => if xs.length + ys.length ≤ sizeLine then push g (.lst (xs ++ ys)) else none
    | some (.tup xs), some (.tup ys) => if xs.length + ys.length ≤ sizeLine then
        (match xs, ys with | [], _ => some (.obj b, g) | _ :: _, [] => some (.obj a, g) | _ :: _, _ :: _ => push g (.tup (xs ++ ys))) else none
    | _, _ => none
  | _, _ => none
def uSub (x y : U) : Op U := fun g => match x, y with
  | .int i, .int j => some (.int (i - j), g)
  | _, _ => none
def uMul (x y : U) : Op U := fun g => match x, y with
  | .int i, .int j => if i.natAbs.log2 + j.natAbs.log2 < 1000000 then some (.int (i * j), g) else none
  | .obj a, .int k => match g[a]? with
    | some (.lst xs) => if -(2 ^ 63) ≤ k ∧ k < 2 ^ 63 ∧ xs.length * k.toNat ≤ sizeLine then push g (.lst (List.replicate k.toNat xs).flatten) else none
    | some (.tup xs) => if xs = [] ∨ k = 1 then (if -(2 ^ 63) ≤ k ∧ k < 2 ^ 63 then some (.obj a, g) else none) else if k ≤ 0 then (if -(2 ^ 63) ≤ k then push g (.tup []) else none) else if k ≤ 1000 ∧ xs.length ≤ 1000 then push g (.tup (List.replicate k.toNat xs).flatten) else none
    | _ => none
  | _, _ => none
def uFdiv (x y : U) : Op U := fun g => match x, y with
  | .int i, .int j => if 0 < j ∧ j.natAbs.log2 < 9000 then some (.int (i / j), g) else none
  | _, _ => none
def uMod (x y : U) : Op U := fun g => match x, y with
  | .int i, .int j => if 0 < j then some (.int (i % j), g) else none
  | _, _ => none
def uPow (x y : U) : Op U := fun g => match x, y with
  | .int i, .int j => if 0 ≤ j ∧ j ≤ 1000000 ∧ i.natAbs < 2 ^ 64 then some (.int (i ^ j.toNat), g) else none
  | _, _ => none
def uNeg (x : U) : Op U := fun g => match x with
  | .int i => some (.int (-i), g)
  | _ => none
/-! ### relation helpers -/
section
variable {C : Names} {m : List Addr} {g g' : G} {H : Hp} {Q : VK} {K : PySem.W.Frag} {n : Nat} {a : Addr} {xs : List U}
theorem PostP.val {u : U} {v : V} (P : PostP C RV m H Q (some (u, g))) (R : Rel C m g H) (r : RV m u v) : Q v H := P m H v (Ext.refl _ _) R r
theorem PostP.new {o : O} {ho : HO} (P : PostP C RV m H Q (push g o)) (R : Rel C m g H) (ro : ∀ p, H p = none → RO C (m ++ [p]) o p (upd H p ho)) : ∀ p, H p = none → Q (.ref p) (upd H p ho) := fun p hp => by
  obtain ⟨r', x'⟩ := R.push hp (ro p hp)
  refine P _ _ _ x' r' ⟨p, ?_, rfl⟩
  rw [← R.len]; exact List.getElem?_concat_length
theorem RVs.snoc {us : List U} {vs : List V} {p : Addr} (h : RVs m us vs) : RVs (m ++ [p]) us vs := h.ext fun _ _ h => getElem?_snoc h
theorem ro_lst {p : Addr} {vs : List V} (h : RVs m xs vs) : RO C (m ++ [p]) (.lst xs) p (upd H p (.lst vs)) := ⟨vs, upd_same, h.snoc⟩
theorem ro_tup {p : Addr} {vs : List V} (h : RVs m xs vs) : RO C (m ++ [p]) (.tup xs) p (upd H p (.tup vs)) := ⟨vs, upd_same, h.snoc⟩
theorem RVs.append {us us' : List U} {vs vs' : List V} (h : RVs m us vs) (h' : RVs m us' vs') : RVs m (us ++ us') (vs ++ vs') := by
  induction h with
  | nil => exact h'
  | cons r t ih => exact .cons r ih
theorem Paired.len {α β : Type} {F : α → β → Prop} {xs : List α} {ys : List β} (h : Paired F xs ys) : xs.length = ys.length := by
  induction h with
  | nil => rfl
  | cons r t ih => simp [ih]
theorem Paired.get {α β : Type} {F : α → β → Prop} {xs : List α} {ys : List β} (h : Paired F xs ys) : ∀ {i : Nat} {x : α}, xs[i]? = some x → ∃ y, ys[i]? = some y ∧ F x y := by
  induction h with
  | nil => intro i x e; simp at e
  | cons r t ih =>
    intro i x e
    cases i with
    | zero => simp at e; subst e; exact ⟨_, rfl, r⟩
    | succ i => simp at e; simpa using ih e
theorem Paired.take {α β : Type} {F : α → β → Prop} {xs : List α} {ys : List β} (h : Paired F xs ys) : ∀ k, Paired F (xs.take k) (ys.take k) := by
  induction h with
  | nil => intro k; simp; exact .nil
  | cons r t ih => intro k; cases k with
    | zero => exact .nil
    | succ k => exact .cons r (ih k)
theorem Paired.drop {α β : Type} {F : α → β → Prop} {xs : List α} {ys : List β} (h : Paired F xs ys) : ∀ k, Paired F (xs.drop k) (ys.drop k) := by
  induction h with
  | nil => intro k; simp; exact .nil
  | cons r t ih => intro k; cases k with
    | zero => exact .cons r t
    | succ k => exact ih k
theorem Paired.set {α β : Type} {F : α → β → Prop} {xs : List α} {ys : List β} (h : Paired F xs ys) {x : α} {y : β} (r : F x y) : ∀ k, Paired F (xs.set k x) (ys.set k y) := by
  induction h with
  | nil => intro k; simp; exact .nil
  | cons r' t ih => intro k; cases k with
    | zero => exact .cons r t
    | succ k => exact .cons r' (ih k)
theorem RVs.nil_iff {us : List U} {vs : List V} (h : RVs m us vs) : us = [] ↔ vs = [] := by cases h <;> simp
theorem rep_rv {us : List U} {vs : List V} (h : RVs m us vs) : ∀ k : Nat, RVs m (List.replicate k us).flatten (List.replicate k vs).flatten
  | 0 => .nil
  | k + 1 => by simp only [List.replicate_succ, List.flatten_cons]; exact RVs.append h (rep_rv h k)
theorem Rel.seq (R : Rel C m g H) {b : Bool} (hn : m[n]? = some a) (e : seqAt g n = some (b, xs)) : ∃ vs, RVs m xs vs ∧ (b = false → SqL K H a vs) ∧ (b = true → SqT K H a vs) := by
  unfold seqAt at e
  obtain ⟨o, ho, ro⟩ := R.get hn
  rw [ho] at e
  cases o with
  | lst ys => obtain ⟨vs, h1, h2⟩ := ro; simp only [Option.some.injEq, Prod.mk.injEq] at e; obtain ⟨rfl, rfl⟩ := e; exact ⟨vs, h2, fun _ => SqL.of h1, fun h => nomatch h⟩
  | frz ys => obtain ⟨ob, vs, h1, h2⟩ := ro; simp only [Option.some.injEq, Prod.mk.injEq] at e; obtain ⟨rfl, rfl⟩ := e; exact ⟨vs, h2, fun _ => .inl (.inr ⟨ob, h1⟩), fun h => nomatch h⟩
  | tup ys => obtain ⟨vs, h1, h2⟩ := ro; simp only [Option.some.injEq, Prod.mk.injEq] at e; obtain ⟨rfl, rfl⟩ := e; exact ⟨vs, h2, fun h => (nomatch h), fun _ => SqT.of h1⟩
  | dct _ => cases e
  | ins _ _ => cases e
  | xd _ => cases e
theorem Rel.lst (R : Rel C m g H) (hn : m[n]? = some a) (e : g[n]? = some (.lst xs)) : ∃ vs, RVs m xs vs ∧ H a = some (.lst vs) := by
  obtain ⟨vs, h1, h2⟩ := R.at_ n a _ hn e
  exact ⟨vs, h2, h1⟩
theorem Rel.tup (R : Rel C m g H) (hn : m[n]? = some a) (e : g[n]? = some (.tup xs)) : ∃ vs, RVs m xs vs ∧ H a = some (.tup vs) := by
  obtain ⟨vs, h1, h2⟩ := R.at_ n a _ hn e
  exact ⟨vs, h2, h1⟩
end
/-! ### readings by values -/
def rd1 (C : Names) (f : U → Op U) : V → Hp → VK → Prop := fun x H Q => ∃ m g u, Rel C m g H ∧ RV m u x ∧ PostP C RV m H Q (f u g)
def rd2 (C : Names) (f : U → U → Op U) : R2 := fun x y H Q => ∃ m g u w, Rel C m g H ∧ RV m u x ∧ RV m w y ∧ PostP C RV m H Q (f u w g)
def rdN (C : Names) (f : List U → Op U) : List V → Hp → VK → Prop := fun xs H Q => ∃ m g us, Rel C m g H ∧ RVs m us xs ∧ PostP C RV m H Q (f us g)
def rdM (C : Names) (f : U → List U → Op U) : V → List V → Hp → VK → Prop := fun x xs H Q => ∃ m g u us, Rel C m g H ∧ RV m u x ∧ RVs m us xs ∧ PostP C RV m H Q (f u us g)
section
variable {C : Names} {X : Cx}
theorem add_ok : OpR X (binaryOp .Add) (rd2 C uAdd) := by
  intro pins s σ H x y v u Q I rx ry h
  obtain ⟨m, g, a, b, R, ra, rb, P⟩ := h
  unfold uAdd at P
  cases a with
  | int i => cases b with
    | int j => exact op_add pins s σ H x y v u Q I rx ry ⟨i, j, ra, rb, P.val R rfl⟩
    | _ => exact P.elim
  | str z => cases b with
    | str w =>
      by_cases hz : z.length + w.length ≤ sizeLine
      · simp only [if_pos hz] at P
        exact op_add_str pins s σ H x y v u Q I rx ry ⟨z, w, ra, rb, hz, P.val R rfl⟩
      · simp only [if_neg hz] at P; exact P.elim
    | _ => exact P.elim
  | obj i => cases b with
    | obj j =>
      obtain ⟨p, hp, rfl⟩ := ra
      obtain ⟨q, hq, rfl⟩ := rb
      simp only at P
      cases e1 : g[i]? with
      | none => simp only [e1] at P; exact P.elim
      | some o1 =>
        cases e2 : g[j]? with
        | none => simp only [e1, e2] at P; cases o1 <;> exact P.elim
        | some o2 =>
          simp only [e1, e2] at P
          cases o1 with
          | lst xs => cases o2 with
            | lst ys =>
              by_cases hz : xs.length + ys.length ≤ sizeLine
              · simp only [if_pos hz] at P
                obtain ⟨vs, r1, h1⟩ := R.lst hp e1
                obtain ⟨ws, r2, h2⟩ := R.lst hq e2
                refine op_cat pins s σ H _ _ v u Q I rx ry ⟨p, q, vs, ws, rfl, rfl, h1, h2, by rw [← Paired.len r1, ← Paired.len r2]; exact hz, P.new R fun p hp => ro_lst (RVs.append r1 r2)⟩
              · simp only [if_neg hz] at P; exact P.elim
            | _ => exact P.elim
          | tup xs => cases o2 with
            | tup ys =>
              by_cases hz : xs.length + ys.length ≤ sizeLine
              · simp only [if_pos hz] at P
                obtain ⟨vs, r1, h1⟩ := R.tup hp e1
                obtain ⟨ws, r2, h2⟩ := R.tup hq e2
                refine op_catA pins s σ H _ _ v u Q I rx ry ⟨p, q, vs, ws, rfl, rfl, SqT.of h1, SqT.of h2, by rw [← Paired.len r1, ← Paired.len r2]; exact hz, fun e => ?_, fun e e' => ?_, fun e e' => ?_⟩
                · have : xs = [] := r1.nil_iff.mpr e
                  subst this
                  exact P.val R ⟨q, hq, rfl⟩
                · have n1 : xs ≠ [] := fun z => e (r1.nil_iff.mp z)
                  have : ys = [] := r2.nil_iff.mpr e'
                  subst this
                  cases xs with
                  | nil => exact absurd rfl n1
                  | cons _ _ => exact P.val R ⟨p, hp, rfl⟩
                · have n1 : xs ≠ [] := fun z => e (r1.nil_iff.mp z)
                  have n2 : ys ≠ [] := fun z => e' (r2.nil_iff.mp z)
                  cases xs with
                  | nil => exact absurd rfl n1
                  | cons _ _ => cases ys with
                    | nil => exact absurd rfl n2
                    | cons _ _ => exact P.new R fun p hp => ro_tup (RVs.append r1 r2)
              · simp only [if_neg hz] at P; exact P.elim
            | _ => exact P.elim
          | _ => cases o2 <;> exact P.elim
    | _ => exact P.elim
  | _ => cases b <;> exact P.elim
theorem sub_ok : OpR X (binaryOp .Sub) (rd2 C uSub) := by
  intro pins s σ H x y v u Q I rx ry h
  obtain ⟨m, g, a, b, R, ra, rb, P⟩ := h
  cases a with
  | int i => cases b with
    | int j => exact op_sub pins s σ H x y v u Q I rx ry ⟨i, j, ra, rb, P.val R rfl⟩
    | _ => exact P.elim
  | _ => cases b <;> exact P.elim
theorem mod_ok : OpR X (binaryOp .Mod) (rd2 C uMod) := by
  intro pins s σ H x y v u Q I rx ry h
  obtain ⟨m, g, a, b, R, ra, rb, P⟩ := h
  unfold uMod at P
  cases a with
  | int i => cases b with
    | int j =>
      by_cases hz : 0 < j
      · simp only [if_pos hz] at P; exact op_mod pins s σ H x y v u Q I rx ry ⟨i, j, ra, rb, hz, P.val R rfl⟩
      · simp only [if_neg hz] at P; exact P.elim
    | _ => exact P.elim
  | _ => cases b <;> exact P.elim
theorem fdiv_ok : OpR X (binaryOp .FloorDiv) (rd2 C uFdiv) := by
  intro pins s σ H x y v u Q I rx ry h
  obtain ⟨m, g, a, b, R, ra, rb, P⟩ := h
  unfold uFdiv at P
  cases a with
  | int i => cases b with
    | int j =>
      by_cases hz : 0 < j ∧ j.natAbs.log2 < 9000
      · simp only [if_pos hz] at P; exact op_fdivW pins s σ H x y v u Q I rx ry ⟨i, j, ra, rb, hz, P.val R rfl⟩
      · simp only [if_neg hz] at P; exact P.elim
    | _ => exact P.elim
  | _ => cases b <;> exact P.elim
theorem pow_ok : OpR X (binaryOp .Pow) (rd2 C uPow) := by
  intro pins s σ H x y v u Q I rx ry h
  obtain ⟨m, g, a, b, R, ra, rb, P⟩ := h
  unfold uPow at P
  cases a with
  | int i => cases b with
    | int j =>
      by_cases hz : 0 ≤ j ∧ j ≤ 1000000 ∧ i.natAbs < 2 ^ 64
      · simp only [if_pos hz] at P; exact op_pow pins s σ H x y v u Q I rx ry ⟨i, j, ra, rb, hz, P.val R rfl⟩
      · simp only [if_neg hz] at P; exact P.elim
    | _ => exact P.elim
  | _ => cases b <;> exact P.elim
theorem mul_ok : OpR X (binaryOp .Mult) (rd2 C uMul) := by
  intro pins s σ H x y v u Q I rx ry h
  obtain ⟨m, g, a, b, R, ra, rb, P⟩ := h
  unfold uMul at P
  cases a with
  | int i => cases b with
    | int j =>
      by_cases hz : i.natAbs.log2 + j.natAbs.log2 < 1000000
      · simp only [if_pos hz] at P; exact op_mulW pins s σ H x y v u Q I rx ry ⟨i, j, ra, rb, hz, P.val R rfl⟩
      · simp only [if_neg hz] at P; exact P.elim
    | _ => exact P.elim
  | obj i => cases b with
    | int k =>
      obtain ⟨p, hp, rfl⟩ := ra
      have rb : y = .int k := rb
      subst rb
      simp only at P
      cases e1 : g[i]? with
      | none => simp only [e1] at P; exact P.elim
      | some o1 =>
        simp only [e1] at P
        cases o1 with
        | lst xs =>
          by_cases hz : -(2 ^ 63) ≤ k ∧ k < 2 ^ 63 ∧ xs.length * k.toNat ≤ sizeLine
          · simp only [if_pos hz] at P
            obtain ⟨vs, r1, h1⟩ := R.lst hp e1
            refine op_rep pins s σ H _ _ v u Q I rx ry ⟨p, k, vs, rfl, rfl, h1, hz.1, hz.2.1, by rw [← Paired.len r1]; exact hz.2.2, P.new R fun p hp => ro_lst (rep_rv r1 _)⟩
          · simp only [if_neg hz] at P; exact P.elim
        | tup xs =>
          obtain ⟨vs, r1, h1⟩ := R.tup hp e1
          by_cases h0 : xs = [] ∨ k = 1
          · simp only [if_pos h0] at P
            by_cases hz : -(2 ^ 63) ≤ k ∧ k < 2 ^ 63
            · simp only [if_pos hz] at P
              exact op_repT1 pins s σ H _ _ v u Q I rx ry ⟨p, k, vs, rfl, rfl, SqT.of h1, hz.1, hz.2, h0.imp (fun e => r1.nil_iff.mp e) id, P.val R ⟨p, hp, rfl⟩⟩
            · simp only [if_neg hz] at P; exact P.elim
          · simp only [if_neg h0] at P
            by_cases hk : k ≤ 0
            · simp only [if_pos hk] at P
              by_cases hz : -(2 ^ 63) ≤ k
              · simp only [if_pos hz] at P
                exact op_repT0 pins s σ H _ _ v u Q I rx ry ⟨p, k, vs, rfl, rfl, SqT.of h1, fun z => h0 (.inl (r1.nil_iff.mpr z)), hz, hk, P.new R fun p hp => ro_tup .nil⟩
              · simp only [if_neg hz] at P; exact P.elim
            · simp only [if_neg hk] at P
              by_cases hz : k ≤ 1000 ∧ xs.length ≤ 1000
              · simp only [if_pos hz] at P
                refine op_repT pins s σ H _ _ v u Q I rx ry ⟨p, k, vs, rfl, rfl, SqT.of h1, fun z => h0 (.inl (r1.nil_iff.mpr z)), ?_, hz.1, by rw [← Paired.len r1]; exact hz.2, P.new R fun p hp => ro_tup (rep_rv r1 _)⟩
                rw [not_or] at h0; omega
              · simp only [if_neg hz] at P; exact P.elim
        | _ => exact P.elim
    | _ => exact P.elim
  | _ => cases b <;> exact P.elim
theorem neg_ok : UnR X (unaryOp .USub) (rd1 C uNeg) := by
  intro pins s σ H x v Q I rx h
  obtain ⟨m, g, a, R, ra, P⟩ := h
  cases a with
  | int i => exact un_neg pins s σ H x v Q I rx ⟨i, ra, P.val R rfl⟩
  | _ => exact P.elim
end
end PM

set_option Elab.async false
set_option linter.all false
set_option maxRecDepth 100000
set_option autoImplicit false
namespace PM
open PySem PySem.Spec PyProof.Rows L2

/-! ## combinators -/
def eVar (i : Nat) : E := fun τ g => match τ[i]? with | some (some u) => .ok u g | _ => .stuck
def eC (u : U) : E := fun _ g => .ok u g
def eBin (f : U → U → Op U) (a b : E) : E := fun τ g => bnd (a τ g) fun x g => bnd (b τ g) fun y => lift (f x y)
def eUn (f : U → Op U) (a : E) : E := fun τ g => bnd (a τ g) fun x => lift (f x)
def aNil : A := fun _ g => .ok [] g
def aCons (a : E) (r : A) : A := fun τ g => bnd (a τ g) fun x g => bnd (r τ g) fun xs => ret (x :: xs)
/-- a built-in on values -/
def eN (f : List U → Op U) (a : A) : E := fun τ g => bnd (a τ g) fun xs => lift (f xs)
/-- a def of the program: positional values, keywords' values -/
def eF (f : List U → List U → M U) (a k : A) : E := fun τ g => bnd (a τ g) fun xs g => bnd (k τ g) fun zs => f xs zs
/-- a built-in method -/
def eM (f : U → List U → Op U) (o : E) (a : A) : E := fun τ g => bnd (o τ g) fun x g => bnd (a τ g) fun xs => lift (f x xs)
def uTru (x : U) : Op Bool := fun g => match x with
  | .non => some (false, g)
  | .bl b => some (b, g)
  | .int i => some (i != 0, g)
  | .str z => if z.length ≤ sizeLine then some ((z.length : Int) != 0, g) else none
  | .obj n => match g[n]? with
    | some (.lst xs) => some (!xs.isEmpty, g)
    | some (.frz xs) => some (!xs.isEmpty, g)
    | some (.tup xs) => some (!xs.isEmpty, g)
    | some (.dct xs) => some (!xs.isEmpty, g)
    | _ => none
def tE (e : E) : T := fun τ g => bnd (e τ g) fun x => lift (uTru x)
def tNo (t : T) : T := fun τ g => bnd (t τ g) fun b => ret (!b)
def tAn (a b : T) : T := fun τ g => bnd (a τ g) fun c g => if c = true then b τ g else .ok false g
def tOrr (a b : T) : T := fun τ g => bnd (a τ g) fun c g => if c = true then .ok true g else b τ g
def eAnd (a b : E) : E := fun τ g => bnd (a τ g) fun x g => bnd (lift (uTru x) g) fun k g => if k = true then b τ g else .ok x g
def eOr (a b : E) : E := fun τ g => bnd (a τ g) fun x g => bnd (lift (uTru x) g) fun k g => if k = true then .ok x g else b τ g
def eNo (a : E) : E := fun τ g => bnd (a τ g) fun x g => bnd (lift (uTru x) g) fun k => ret (.bl (!k))
def eIf (t : T) (a b : E) : E := fun τ g => bnd (t τ g) fun c g => if c = true then a τ g else b τ g
def eChain (f f' : U → U → Op U) (a b c : E) : E := fun τ g => bnd (a τ g) fun x g => bnd (b τ g) fun y g => bnd (lift (f x y) g) fun z g => match z with
  | .bl true => bnd (c τ g) fun w => lift (f' y w)
  | .bl false => .ok (.bl false) g
  | _ => .stuck
def uLst (xs : List U) : Op U := fun g => if xs.length ≤ sizeLine then push g (.lst xs) else none
def uTup (xs : List U) : Op U := fun g => if xs.length ≤ sizeLine then push g (.tup xs) else none
abbrev PT' := Sl → M (Option Int)
def pNo : PT' := fun _ g => .ok none g
def pSo (e : E) : PT' := fun τ g => bnd (e τ g) fun x => lift fun g => match x with | .int i => some (some i, g) | _ => none
def eSl (f : U → Option Int → Option Int → Op U) (o : E) (lo hi : PT') : E := fun τ g => bnd (o τ g) fun x g => bnd (lo τ g) fun l g => bnd (hi τ g) fun h => lift (f x l h)

/-! ## readings -/
def RSt (m : List Addr) (e : Option (Nat × Addr × Nat × Addr)) (τ : Sl) (σ : L2.St) : Prop :=
  τ.length = σ.length ∧ (∀ (i : Nat) (u : U), τ[i]? = some (some u) → ∃ v, σ[i]? = some (some v) ∧ RV m u v) ∧ ∀ (i : Nat) (q : Addr × Nat × Addr), e = some (i, q) → σ[i]? = some (some (.ref q.1)) ∧ m[q.2.1]? = some q.2.2
theorem RSt.ext {m m' : List Addr} {e : Option (Nat × Addr × Nat × Addr)} {τ : Sl} {σ : L2.St} (p : ∀ (n : Nat) (a : Addr), m[n]? = some a → m'[n]? = some a) (h : RSt m e τ σ) : RSt m' e τ σ :=
  ⟨h.1, fun i u q => let ⟨v, h1, h2⟩ := h.2.1 i u q; ⟨v, h1, h2.ext p⟩, fun i q e => ⟨(h.2.2 i q e).1, p _ _ (h.2.2 i q e).2⟩⟩
section
variable (C : Names) (e : Option (Nat × Addr × Nat × Addr)) (W : WX)
abbrev WH (W : WX) (σ : L2.St) : Value → Option Addr → Hp → Prop := fun c d H => W c d σ H
def rdG {α β : Type} (R : List Addr → α → β → Prop) (te : Sl → M α) (σ : L2.St) (H : Hp) (Q : β → Hp → Prop) : Prop := ∃ m g τ, Rel C m g H ∧ RSt m e τ σ ∧ Post C R m H (WH W σ) Q (te τ g)
abbrev REq (α : Type) : List Addr → α → α → Prop := fun _ a b => a = b
abbrev rdE (te : E) : TE := rdG C e W RV te
abbrev rdT (tt : T) : TT := rdG C e W (REq Bool) tt
abbrev rdA (ta : A) : TA := rdG C e W RVs ta
abbrev rdO (tp : PT') : TO := rdG C e W (REq (Option Int)) tp
abbrev JE (X : Cx) (ex : Expr) (te : E) : Prop := PE X ex (rdE C e W te)
abbrev JT (X : Cx) (ex : Expr) (tt : T) : Prop := PT X ex (rdT C e W tt)
abbrev JW (X : Cx) (ex : Expr) (tt : T) : Prop := PW X ex (rdT C e W tt)
abbrev JA (X : Cx) (es : List Expr) (ta : A) : Prop := PA X es (rdA C e W ta)
abbrev JK (X : Cx) (ks : List Keyword) (ta : A) : Prop := PK X ks (rdA C e W ta)
abbrev JO (X : Cx) (o : Option Expr) (tp : PT') : Prop := PO X o (rdO C e W tp)
end
theorem _root_.L2.PE.imp {X : Cx} {ex : Expr} {t t' : TE} (h : PE X ex t) (i : ∀ σ H Q, t' σ H Q → t σ H Q) : PE X ex t' := ⟨fun pins s σ H Q I q => h.run pins s σ H Q I (i σ H Q q)⟩
theorem _root_.L2.PT.imp {X : Cx} {ex : Expr} {t t' : TT} (h : PT X ex t) (i : ∀ σ H Q, t' σ H Q → t σ H Q) : PT X ex t' := ⟨fun pins s σ H Q I q => h.run pins s σ H Q I (i σ H Q q)⟩
theorem _root_.L2.PW.imp {X : Cx} {ex : Expr} {t t' : TT} (h : PW X ex t) (i : ∀ σ H Q, t' σ H Q → t σ H Q) : PW X ex t' := ⟨fun wh pins s σ H Q I q => h.run wh pins s σ H Q I (i σ H Q q)⟩
theorem _root_.L2.PA.imp {X : Cx} {ex : List Expr} {t t' : TA} (h : PA X ex t) (i : ∀ σ H Q, t' σ H Q → t σ H Q) : PA X ex t' := ⟨fun pos pins s σ H Q I q => h.run pos pins s σ H Q I (i σ H Q q)⟩
theorem _root_.L2.PK.imp {X : Cx} {ex : List Keyword} {t t' : TA} (h : PK X ex t) (i : ∀ σ H Q, t' σ H Q → t σ H Q) : PK X ex t' := ⟨fun pos pins s σ H Q I q => h.run pos pins s σ H Q I (i σ H Q q)⟩
theorem _root_.L2.PO.imp {X : Cx} {ex : Option Expr} {t t' : TO} (h : PO X ex t) (i : ∀ σ H Q, t' σ H Q → t σ H Q) : PO X ex t' := ⟨fun pins s σ H Q I q => h.run pins s σ H Q I (i σ H Q q)⟩
section
variable {C : Names} {e : Option (Nat × Addr × Nat × Addr)} {W : WX} {X : Cx} {a b c : Expr} {ta tb tc : E} {pos : Pos} {α β γ δ : Type} {R : List Addr → α → β → Prop} {R2 : List Addr → γ → δ → Prop} {σ : L2.St} {H : Hp}
/-- a first part, then the rest -/
theorem rd_bnd {x : Sl → M α} {f : Sl → α → M γ} {Q : δ → Hp → Prop} (h : rdG C e W R2 (fun τ g => bnd (x τ g) (f τ)) σ H Q) :
    rdG C e W R x σ H fun v H1 => ∃ m g τ u, Rel C m g H1 ∧ RSt m e τ σ ∧ R m u v ∧ Post C R2 m H1 (WH W σ) Q (f τ u g) := by
  obtain ⟨m, g, τ, hR, hS, hP⟩ := h
  refine ⟨m, g, τ, hR, hS, (Post.bnd (R := R) hP).imp ?_⟩
  rintro v H1 ⟨u, m1, g1, x1, R1, rv, P1⟩
  exact ⟨m1, g1, τ, u, R1, hS.ext x1.pre, rv, P1⟩
theorem rd_of {f : Sl → M α} {m : List Addr} {g : G} {τ : Sl} {Q : β → Hp → Prop} (r : Rel C m g H) (s : RSt m e τ σ) (p : Post C R m H (WH W σ) Q (f τ g)) : rdG C e W R f σ H Q := ⟨m, g, τ, r, s, p⟩
theorem Post.val {m : List Addr} {g : G} {W : Value → Option Addr → Hp → Prop} {Q : β → Hp → Prop} {u : α} {v : β} (P : Post C R m H W Q (.ok u g)) (hR : Rel C m g H) (r : R m u v) : Q v H := P m H v (Ext.refl _ _) hR r
theorem je_var {i : Nat} {x : Str} (hN : X.N[i]? = some x) (hv : Vis X.env.scope x) (hd : (x == ("__debug__" : Str)) = false) (hcd : (x == ("__classdict__" : Str)) = false) : JE C e W X (.Name x pos) (eVar i) :=
  (pe_var hN hv hd hcd).imp fun σ H Q h => by
    obtain ⟨m, g, τ, hR, hS, hP⟩ := h
    unfold eVar at hP
    cases q : τ[i]? with
    | none => simp only [q] at hP; exact hP.elim
    | some o => cases o with
      | none => simp only [q] at hP; exact hP.elim
      | some u =>
        simp only [q] at hP
        obtain ⟨v, h1, h2⟩ := hS.2.1 i u q
        exact ⟨v, h1, hP.val hR h2⟩
theorem je_c {u : U} {v : V} (h : PE X a (tC v)) (r : ∀ m, RV m u v) : JE C e W X a (eC u) := h.imp fun σ H Q h => by
  obtain ⟨m, g, τ, hR, hS, hP⟩ := h
  exact hP.val hR (r m)
theorem je_int {i : Int} {j : Nat} : JE C e W X (.Constant (.int i) j pos) (eC (.int i)) := je_c pe_int fun _ => rfl
theorem je_bl {i : Bool} {j : Nat} : JE C e W X (.Constant (.bool i) j pos) (eC (.bl i)) := je_c pe_bl fun _ => rfl
theorem je_str {i : Str} {j : Nat} : JE C e W X (.Constant (.str i) j pos) (eC (.str i)) := je_c pe_str fun _ => rfl
theorem je_non {j : Nat} : JE C e W X (.Constant .none j pos) (eC .non) := je_c pe_non fun _ => rfl
theorem rd_op2 {f : U → U → Op U} {Q : VK} (h : rdE C e W (eBin f ta tb) σ H Q) : tOp (rd2 C f) (rdE C e W ta) (rdE C e W tb) σ H Q := by
  refine (fun h => h) (show rdG C e W RV ta σ H _ from ?_)
  obtain ⟨m, g, τ, hR, hS, hP⟩ := h
  refine ⟨m, g, τ, hR, hS, (Post.bnd (R := RV) hP).imp ?_⟩
  rintro v H1 ⟨u, m1, g1, x1, R1, rv, P1⟩
  refine ⟨m1, g1, τ, R1, hS.ext x1.pre, (Post.bnd (R := RV) P1).imp ?_⟩
  rintro v2 H2 ⟨u2, m2, g2, x2, R2, rv2, P2⟩
  exact ⟨m2, g2, u, u2, R2, rv.ext x2.pre, rv2, P2.lift⟩
theorem je_bin {op : Operator} {f : U → U → Op U} (ho : OpR X (binaryOp op) (rd2 C f)) (ha : JE C e W X a ta) (hb : JE C e W X b tb) : JE C e W X (.BinOp a op b pos) (eBin f ta tb) := (pe_op ho ha hb).imp fun _ _ _ h => rd_op2 h
theorem je_cmp {op : CmpOp} {f : U → U → Op U} (ho : OpR X (compareOp op) (rd2 C f)) (ha : JE C e W X a ta) (hb : JE C e W X b tb) (hm : behindInMarks op b = false) : JE C e W X (.Compare a [op] [b] pos) (eBin f ta tb) := (pe_cmpR ho ha hb hm).imp fun _ _ _ h => rd_op2 h
theorem je_un {op : UnaryOp} {f : U → Op U} (ho : UnR X (unaryOp op) (rd1 C f)) (ha : JE C e W X a ta) : JE C e W X (.UnaryOp op a pos) (eUn f ta) := (pe_un ho ha).imp fun σ H Q h => by
  obtain ⟨m, g, τ, hR, hS, hP⟩ := h
  refine ⟨m, g, τ, hR, hS, (Post.bnd (R := RV) hP).imp ?_⟩
  rintro v H1 ⟨u, m1, g1, x1, R1, rv, P1⟩
  exact ⟨m1, g1, u, R1, rv, P1.lift⟩
/-! ### truth -/
theorem uTru_ok {x : U} {v : V} {m : List Addr} {g : G} {Q : Bool → Hp → Prop} (hR : Rel C m g H) (r : RV m x v) (P : PostP C (REq Bool) m H Q (uTru x g)) : ∃ k, TruV X.K v H k ∧ uTru x g = some (k, g) ∧ Q k H := by
  unfold uTru at P ⊢
  have fin : ∀ {k : Bool}, PostP C (REq Bool) m H Q (some (k, g)) → Q k H := fun p => p m H _ (Ext.refl _ _) hR rfl
  cases x with
  | non => obtain rfl : v = .non := r; exact ⟨false, rfl, rfl, fin P⟩
  | bl b => obtain rfl : v = .bl b := r; exact ⟨b, rfl, rfl, fin P⟩
  | int i => obtain rfl : v = .int i := r; exact ⟨_, rfl, rfl, fin P⟩
  | str z =>
    obtain rfl : v = .str z := r
    by_cases hz : z.length ≤ sizeLine
    · simp only [if_pos hz] at P ⊢; exact ⟨_, ⟨hz, rfl⟩, rfl, fin P⟩
    · simp only [if_neg hz] at P; exact P.elim
  | obj n =>
    obtain ⟨q, hq, rfl⟩ := r
    have em : ∀ {xs : List U} {vs : List V}, RVs m xs vs → (!xs.isEmpty) = !vs.isEmpty := fun r => by cases r <;> rfl
    simp only at P ⊢
    cases o1 : g[n]? with
    | none => simp only [o1] at P; exact P.elim
    | some o =>
      simp only [o1] at P ⊢
      have ro := hR.at_ n q o hq o1
      cases o with
      | lst xs => obtain ⟨vs, h1, h2⟩ := ro; exact ⟨_, .inl ⟨vs, SqL.of h1, em h2⟩, rfl, fin P⟩
      | frz xs => obtain ⟨ob, vs, h1, h2⟩ := ro; exact ⟨_, .inl ⟨vs, .inl (.inr ⟨ob, h1⟩), em h2⟩, rfl, fin P⟩
      | tup xs => obtain ⟨vs, h1, h2⟩ := ro; exact ⟨_, .inr (.inl ⟨vs, SqT.of h1, em h2⟩), rfl, fin P⟩
      | dct xs => obtain ⟨vs, h1, h2⟩ := ro; exact ⟨_, .inr (.inr ⟨vs, h1, by cases h2 <;> rfl⟩), rfl, fin P⟩
      | _ => exact P.elim
theorem rd_tru {Q : Bool → Hp → Prop} (h : rdT C e W (tE ta) σ H Q) : rdE C e W ta σ H fun x H' => ∃ k, TruV X.K x H' k ∧ Q k H' := by
  obtain ⟨m, g, τ, hR, hS, hP⟩ := h
  refine ⟨m, g, τ, hR, hS, (Post.bnd (R := RV) hP).imp ?_⟩
  rintro v H1 ⟨u, m1, g1, x1, R1, rv, P1⟩
  obtain ⟨k, h1, _, h3⟩ := uTru_ok (X := X) R1 rv P1.lift
  exact ⟨k, h1, h3⟩
theorem jt_val (ha : JE C e W X a ta) (he : ∀ whole, isTrue a X.env whole = (do let v ← whole; standAt a.pos; holding [v] (truthy v))) : JT C e W X a (tE ta) := (pt_truth ha he).imp fun _ _ _ h => rd_tru h
/-- a comparison as a test -/
theorem jt_cmp {op : CmpOp} {f : U → U → Op U} (ho : OpR X (compareOp op) (rd2 C f)) (hf : ∀ u w g z g', f u w g = some (z, g') → ∃ k, z = .bl k) (ha : JE C e W X a ta) (hb : JE C e W X b tb) (hm : behindInMarks op b = false) : JT C e W X (.Compare a [op] [b] pos) (tE (eBin f ta tb)) :=
  (pt_cmpR ho ha hb hm).imp fun σ H Q h => by
    have h2 := rd_tru (X := X) h
    refine rd_op2 ?_
    obtain ⟨m, g, τ, hR, hS, hP⟩ := h2
    refine ⟨m, g, τ, hR, hS, ?_⟩
    cases q1 : ta τ g with
    | stuck => simp only [eBin, q1, bnd] at hP; exact hP.elim
    | exc c d g1 => simp only [eBin, q1, bnd] at hP ⊢; exact hP
    | ok u g1 =>
      cases q2 : tb τ g1 with
      | stuck => simp only [eBin, q1, q2, bnd] at hP; exact hP.elim
      | exc c d g2 => simp only [eBin, q1, q2, bnd] at hP ⊢; exact hP
      | ok w g2 =>
        simp only [eBin, q1, q2, bnd, lift] at hP ⊢
        cases q3 : f u w g2 with
        | none => simp only [q3] at hP; exact hP.elim
        | some z =>
          obtain ⟨z, g3⟩ := z
          simp only [q3] at hP ⊢
          obtain ⟨k, rfl⟩ := hf _ _ _ _ _ q3
          intro m' H' v x' r' rv
          obtain ⟨k', t', q'⟩ := hP m' H' v x' r' rv
          obtain rfl : v = .bl k := rv
          obtain rfl : k' = k := t'
          exact ⟨k', rfl, q'⟩
theorem jt_not {tt : T} (ha : JT C e W X a tt) : JT C e W X (.UnaryOp .Not a pos) (tNo tt) := (pt_not ha).imp fun σ H Q h => by
  obtain ⟨m, g, τ, hR, hS, hP⟩ := h
  refine ⟨m, g, τ, hR, hS, (Post.bnd (R := REq Bool) hP).imp ?_⟩
  rintro v H1 ⟨u, m1, g1, x1, R1, rv, P1⟩
  obtain rfl : u = v := rv
  exact P1.val R1 rfl
theorem jw_and1 {tt : T} (ha : JT C e W X a tt) : JW C e W X (.BoolOp .And [a] pos) tt := pw_and1 ha
theorem jw_or1 {tt : T} (ha : JT C e W X a tt) : JW C e W X (.BoolOp .Or [a] pos) tt := pw_or1 ha
theorem jw_and {tt tu : T} {rest : List Expr} (ha : JT C e W X a tt) (hb : JW C e W X (.BoolOp .And (b :: rest) pos) tu) : JW C e W X (.BoolOp .And (a :: b :: rest) pos) (tAn tt tu) := (pw_and ha hb).imp fun σ H Q h => by
  obtain ⟨m, g, τ, hR, hS, hP⟩ := h
  refine ⟨m, g, τ, hR, hS, (Post.bnd (R := REq Bool) hP).imp ?_⟩
  rintro v H1 ⟨u, m1, g1, x1, R1, rv, P1⟩
  obtain rfl : u = v := rv
  cases u with
  | true => exact ⟨m1, g1, τ, R1, hS.ext x1.pre, P1⟩
  | false => exact P1.val R1 rfl
theorem jw_or {tt tu : T} {rest : List Expr} (ha : JT C e W X a tt) (hb : JW C e W X (.BoolOp .Or (b :: rest) pos) tu) : JW C e W X (.BoolOp .Or (a :: b :: rest) pos) (tOrr tt tu) := (pw_or ha hb).imp fun σ H Q h => by
  obtain ⟨m, g, τ, hR, hS, hP⟩ := h
  refine ⟨m, g, τ, hR, hS, (Post.bnd (R := REq Bool) hP).imp ?_⟩
  rintro v H1 ⟨u, m1, g1, x1, R1, rv, P1⟩
  obtain rfl : u = v := rv
  cases u with
  | true => exact P1.val R1 rfl
  | false => exact ⟨m1, g1, τ, R1, hS.ext x1.pre, P1⟩
theorem je_one {op : BoolOp} (h : JE C e W X a ta) : JE C e W X (.BoolOp op [a] pos) ta := pe_one h
theorem je_and {rest : List Expr} (ha : JE C e W X a ta) (hb : JE C e W X (.BoolOp .And (b :: rest) pos) tb) : JE C e W X (.BoolOp .And (a :: b :: rest) pos) (eAnd ta tb) := (pe_andT ha hb).imp fun σ H Q h => by
  obtain ⟨m, g, τ, hR, hS, hP⟩ := h
  refine ⟨m, g, τ, hR, hS, (Post.bnd (R := RV) hP).imp ?_⟩
  rintro v H1 ⟨u, m1, g1, x1, R1, rv, P1⟩
  obtain ⟨k, h1, h2, h3⟩ := uTru_ok (X := X) R1 rv (Post.lift (Post.bnd (R := REq Bool) P1))
  refine ⟨k, h1, ?_⟩
  simp only [lift, h2, bnd] at P1
  cases k with
  | true => exact ⟨m1, g1, τ, R1, hS.ext x1.pre, P1⟩
  | false => exact P1.val R1 rv
theorem je_or {rest : List Expr} (ha : JE C e W X a ta) (hb : JE C e W X (.BoolOp .Or (b :: rest) pos) tb) : JE C e W X (.BoolOp .Or (a :: b :: rest) pos) (eOr ta tb) := (pe_orT ha hb).imp fun σ H Q h => by
  obtain ⟨m, g, τ, hR, hS, hP⟩ := h
  refine ⟨m, g, τ, hR, hS, (Post.bnd (R := RV) hP).imp ?_⟩
  rintro v H1 ⟨u, m1, g1, x1, R1, rv, P1⟩
  obtain ⟨k, h1, h2, h3⟩ := uTru_ok (X := X) R1 rv (Post.lift (Post.bnd (R := REq Bool) P1))
  refine ⟨k, h1, ?_⟩
  simp only [lift, h2, bnd] at P1
  cases k with
  | true => exact P1.val R1 rv
  | false => exact ⟨m1, g1, τ, R1, hS.ext x1.pre, P1⟩
theorem je_not (ha : JE C e W X a ta) : JE C e W X (.UnaryOp .Not a pos) (eNo ta) := (pe_notT ha).imp fun σ H Q h => by
  obtain ⟨m, g, τ, hR, hS, hP⟩ := h
  refine ⟨m, g, τ, hR, hS, (Post.bnd (R := RV) hP).imp ?_⟩
  rintro v H1 ⟨u, m1, g1, x1, R1, rv, P1⟩
  obtain ⟨k, h1, h2, h3⟩ := uTru_ok (X := X) R1 rv (Post.lift (Post.bnd (R := REq Bool) P1))
  refine ⟨k, h1, ?_⟩
  simp only [lift, h2, bnd, ret] at P1
  exact P1.val R1 rfl
theorem je_if {tt : T} (hc : JT C e W X c tt) (ha : JE C e W X a ta) (hb : JE C e W X b tb) : JE C e W X (.IfExp c a b pos) (eIf tt ta tb) := (pe_ifExp hc ha hb).imp fun σ H Q h => by
  obtain ⟨m, g, τ, hR, hS, hP⟩ := h
  refine ⟨m, g, τ, hR, hS, (Post.bnd (R := REq Bool) hP).imp ?_⟩
  rintro v H1 ⟨u, m1, g1, x1, R1, rv, P1⟩
  obtain rfl : u = v := rv
  cases u with
  | true => exact ⟨m1, g1, τ, R1, hS.ext x1.pre, P1⟩
  | false => exact ⟨m1, g1, τ, R1, hS.ext x1.pre, P1⟩
theorem rd_chain {f f' : U → U → Op U} {Q : VK} (h : rdE C e W (eChain f f' ta tb tc) σ H Q) : tChain (rd2 C f) (rd2 C f') (rdE C e W ta) (rdE C e W tb) (rdE C e W tc) σ H Q := by
  refine (fun h => h) (show rdG C e W RV ta σ H _ from ?_)
  obtain ⟨m, g, τ, hR, hS, hP⟩ := h
  refine ⟨m, g, τ, hR, hS, (Post.bnd (R := RV) hP).imp ?_⟩
  rintro v H1 ⟨u, m1, g1, x1, R1, rv, P1⟩
  refine ⟨m1, g1, τ, R1, hS.ext x1.pre, (Post.bnd (R := RV) P1).imp ?_⟩
  rintro v2 H2 ⟨u2, m2, g2, x2, R2, rv2, P2⟩
  refine ⟨m2, g2, u, u2, R2, rv.ext x2.pre, rv2, ?_⟩
  have P3 := (Post.bnd (R := RV) P2).lift
  cases q : f u u2 g2 with
  | none => rw [q] at P3; exact P3.elim
  | some z =>
    obtain ⟨z, g3⟩ := z
    simp only [lift, q, bnd] at P2
    intro m3 H3 v3 x3 R3 rv3
    cases z with
    | bl k =>
      obtain rfl : v3 = .bl k := rv3
      refine ⟨k, rfl, ?_⟩
      cases k with
      | true =>
        simp only [if_true]
        refine ⟨m3, g3, τ, R3, ((hS.ext x1.pre).ext x2.pre).ext x3.pre, ?_⟩
        refine (Post.bnd (R := RV) (Post.back x3 P2)).imp ?_
        rintro v4 H4 ⟨u4, m4, g4, x4, R4, rv4, P4⟩
        exact ⟨m4, g4, u2, u4, R4, (rv2.ext x3.pre).ext x4.pre, rv4, P4.lift⟩
      | false => exact (Post.back x3 P2).val R3 rfl
    | _ => exact P2.elim
theorem je_chain {op op' : CmpOp} {f f' : U → U → Op U} (ho : OpR X (compareOp op) (rd2 C f)) (ho' : OpR X (compareOp op') (rd2 C f')) (ha : JE C e W X a ta) (hb : JE C e W X b tb) (hc : JE C e W X c tc)
    (hm : lastMarks [op, op'] [b, c] = false) : JE C e W X (.Compare a [op, op'] [b, c] pos) (eChain f f' ta tb tc) := (pe_chain ho ho' ha hb hc hm).imp fun _ _ _ h => rd_chain h
end
end PM

set_option Elab.async false
set_option linter.all false
set_option maxRecDepth 100000
set_option autoImplicit false
namespace PM
open PySem PySem.Spec PyProof.Rows L2

/-! ## comparisons -/
def scalU : U → U → Bool
  | .non, .non => true | .non, .int _ => true | .int _, .non => true | .non, .bl _ => true | .bl _, .non => true | .non, .str _ => true | .str _, .non => true
  | .int _, .int _ => true | .bl _, .bl _ => true | .str _, .str _ => true
  | .int _, .str _ => true | .str _, .int _ => true | .bl _, .str _ => true | .str _, .bl _ => true
  | _, _ => false
def toD (g : G) : Nat → U → Option PyData
  | 0, _ => none
  | k + 1, u => match u with
    | .non => some .none
    | .bl b => some (.bool b)
    | .int i => some (.int i)
    | .str x => some (.str x)
    | .obj n => match seqAt g n with
      | some (b, xs) => (xs.mapM (toD g k)).map fun ds => if b = true then .tuple ds else .list ds
      | none => none
def eqD (neg : Bool) (x y : U) : Op U := fun g => match toD g 20 x, toD g 20 y with
  | some d, some e => if SeqAt.shaped d = true ∧ SeqAt.shaped e = true then some (.bl (if neg = true then !PyData.eqv d e else PyData.eqv d e), g) else none
  | _, _ => none
def uEqG (neg : Bool) (x y : U) : Op U := fun g => if scalU x y = true then some (.bl (if neg = true then !decide (x = y) else decide (x = y)), g) else eqD neg x y g
def uEq : U → U → Op U := uEqG false
def uNe : U → U → Op U := uEqG true
def uLt (x y : U) : Op U := fun g => match x, y with | .int i, .int j => some (.bl (decide (i < j)), g) | _, _ => none
def uLe (x y : U) : Op U := fun g => match x, y with | .int i, .int j => some (.bl (decide (i ≤ j)), g) | _, _ => none
def uGt (x y : U) : Op U := fun g => match x, y with | .int i, .int j => some (.bl (decide (j < i)), g) | _, _ => none
def uGe (x y : U) : Op U := fun g => match x, y with | .int i, .int j => some (.bl (decide (j ≤ i)), g) | _, _ => none
def uIs (neg : Bool) (x y : U) : Op U := fun g => match y with
  | .non => some (.bl (if neg = true then !decide (x = .non) else decide (x = .non)), g)
  | .bl b => match x with | .bl a => some (.bl (if neg = true then !decide (a = b) else decide (a = b)), g) | _ => none
  | _ => none
def flatU : U → Bool
  | .obj _ => false
  | _ => true
def eqvU : U → U → Bool
  | .non, .non => true
  | .bl a, .bl b => a == b
  | .bl a, .int b => (if a then 1 else 0) == b
  | .int a, .bl b => a == (if b then 1 else 0)
  | .int a, .int b => a == b
  | .str a, .str b => a == b
  | _, _ => false
def inU (x : U) (xs : List U) : Bool := xs.any fun y => eqvU y x
def uIn (neg : Bool) (x y : U) : Op U := fun g => match y with
  | .obj n => match seqAt g n with
    | some (_, xs) => if flatU x = true ∧ xs.all flatU = true then some (.bl (if neg = true then !inU x xs else inU x xs), g) else none
    | none => none
  | _ => none
section
variable {C : Names} {X : Cx} {m : List Addr} {g : G} {H : Hp}
theorem PostP.bl {k : Bool} {Q : VK} (P : PostP C RV m H Q (some (.bl k, g))) (R : Rel C m g H) : Q (.bl k) H := P.val R rfl
theorem scal_of {x y : U} {v w : V} (h : scalU x y = true) (r : RV m x v) (s : RV m y w) : scal v w = true ∧ decide (v = w) = decide (x = y) := by
  cases x <;> cases y <;> first | (simp [scalU] at h; done) | (obtain rfl := (show v = _ from r); obtain rfl := (show w = _ from s); refine ⟨rfl, ?_⟩; simp [decide_eq_decide])
theorem toD_ok (K : PySem.W.Frag) (R : Rel C m g H) : ∀ (k : Nat) (u : U) (v : V) (d : PyData), toD g k u = some d → RV m u v → Dp K H v d := by
  intro k
  induction k with
  | zero => intro u v d h; simp [toD] at h
  | succ k ih =>
    have all : ∀ (xs : List U) (vs : List V) (ds : List PyData), xs.mapM (toD g k) = some ds → RVs m xs vs → DpAll K H vs ds := by
      intro xs
      induction xs with
      | nil => intro vs ds h r; cases r; simp at h; subst h; exact .nil
      | cons x xs ihx =>
        intro vs ds h r
        cases r with
        | cons r t =>
          simp only [List.mapM_cons, Option.bind_eq_bind, Option.bind_eq_some_iff, Option.pure_def, Option.some.injEq] at h
          obtain ⟨d, h1, ds', h2, rfl⟩ := h
          exact .cons (ih _ _ _ h1 r) (ihx _ _ h2 t)
    intro u v d h r
    cases u with
    | non => simp only [toD, Option.some.injEq] at h; subst h; obtain rfl := (show v = _ from r); exact .non
    | bl b => simp only [toD, Option.some.injEq] at h; subst h; obtain rfl := (show v = _ from r); exact .bl b
    | int i => simp only [toD, Option.some.injEq] at h; subst h; obtain rfl := (show v = _ from r); exact .int i
    | str z => simp only [toD, Option.some.injEq] at h; subst h; obtain rfl := (show v = _ from r); exact .str z
    | obj n =>
      simp only [toD] at h
      obtain ⟨a, ha, rfl⟩ := r
      cases q : seqAt g n with
      | none => rw [q] at h; cases h
      | some p =>
        obtain ⟨b, xs⟩ := p
        rw [q] at h
        simp only [Option.map_eq_some_iff] at h
        obtain ⟨ds, h1, rfl⟩ := h
        obtain ⟨vs, rv, hl, ht⟩ := R.seq (K := K) ha q
        cases b with
        | true => exact .tup (ht rfl) (all _ _ _ h1 rv)
        | false => exact .lst (hl rfl) (all _ _ _ h1 rv)
theorem eq_ok (hu : X.A.units + 64 < cLine) : OpR X (compareOp .Eq) (rd2 C uEq) := by
  intro pins s σ H x y v u Q I rx ry h
  obtain ⟨m, g, a, b, R, ra, rb, P⟩ := h
  unfold uEq uEqG at P
  by_cases hs : scalU a b = true
  · simp only [if_pos hs, Bool.false_eq_true, if_false] at P
    obtain ⟨h1, h2⟩ := scal_of hs ra rb
    exact op_eq pins s σ H x y v u Q I rx ry ⟨h1, by rw [h2]; exact P.bl R⟩
  · simp only [if_neg hs, eqD] at P
    cases q1 : toD g 20 a with
    | none => simp only [q1] at P; exact P.elim
    | some d => cases q2 : toD g 20 b with
      | none => simp only [q1, q2] at P; exact P.elim
      | some e =>
        simp only [q1, q2] at P
        by_cases hz : SeqAt.shaped d = true ∧ SeqAt.shaped e = true
        · simp only [if_pos hz, Bool.false_eq_true, if_false] at P
          exact op_eqD hu pins s σ H x y v u Q I rx ry ⟨d, e, toD_ok X.K R _ _ _ _ q1 ra, toD_ok X.K R _ _ _ _ q2 rb, hz.1, hz.2, P.bl R⟩
        · simp only [if_neg hz] at P; exact P.elim
theorem ne_ok (hu : X.A.units + 64 < cLine) : OpR X (compareOp .NotEq) (rd2 C uNe) := by
  intro pins s σ H x y v u Q I rx ry h
  obtain ⟨m, g, a, b, R, ra, rb, P⟩ := h
  unfold uNe uEqG at P
  by_cases hs : scalU a b = true
  · simp only [if_pos hs, if_true] at P
    obtain ⟨h1, h2⟩ := scal_of hs ra rb
    exact op_ne pins s σ H x y v u Q I rx ry ⟨h1, by rw [h2]; exact P.bl R⟩
  · simp only [if_neg hs, eqD] at P
    cases q1 : toD g 20 a with
    | none => simp only [q1] at P; exact P.elim
    | some d => cases q2 : toD g 20 b with
      | none => simp only [q1, q2] at P; exact P.elim
      | some e =>
        simp only [q1, q2] at P
        by_cases hz : SeqAt.shaped d = true ∧ SeqAt.shaped e = true
        · simp only [if_pos hz, if_true] at P
          exact op_neD hu pins s σ H x y v u Q I rx ry ⟨d, e, toD_ok X.K R _ _ _ _ q1 ra, toD_ok X.K R _ _ _ _ q2 rb, hz.1, hz.2, P.bl R⟩
        · simp only [if_neg hz] at P; exact P.elim
theorem lt_ok : OpR X (compareOp .Lt) (rd2 C uLt) := by
  intro pins s σ H x y v u Q I rx ry h
  obtain ⟨m, g, a, b, R, ra, rb, P⟩ := h
  cases a with
  | int i => cases b with
    | int j => exact op_lt pins s σ H x y v u Q I rx ry ⟨i, j, ra, rb, P.bl R⟩
    | _ => exact P.elim
  | _ => cases b <;> exact P.elim
theorem le_ok : OpR X (compareOp .LtE) (rd2 C uLe) := by
  intro pins s σ H x y v u Q I rx ry h
  obtain ⟨m, g, a, b, R, ra, rb, P⟩ := h
  cases a with
  | int i => cases b with
    | int j => exact op_le pins s σ H x y v u Q I rx ry ⟨i, j, ra, rb, P.bl R⟩
    | _ => exact P.elim
  | _ => cases b <;> exact P.elim
theorem gt_ok : OpR X (compareOp .Gt) (rd2 C uGt) := by
  intro pins s σ H x y v u Q I rx ry h
  obtain ⟨m, g, a, b, R, ra, rb, P⟩ := h
  cases a with
  | int i => cases b with
    | int j => exact op_gt pins s σ H x y v u Q I rx ry ⟨i, j, ra, rb, P.bl R⟩
    | _ => exact P.elim
  | _ => cases b <;> exact P.elim
theorem ge_ok : OpR X (compareOp .GtE) (rd2 C uGe) := by
  intro pins s σ H x y v u Q I rx ry h
  obtain ⟨m, g, a, b, R, ra, rb, P⟩ := h
  cases a with
  | int i => cases b with
    | int j => exact op_ge pins s σ H x y v u Q I rx ry ⟨i, j, ra, rb, P.bl R⟩
    | _ => exact P.elim
  | _ => cases b <;> exact P.elim
theorem non_iff {x : U} {v : V} (r : RV m x v) : decide (v = .non) = decide (x = .non) := by
  cases x with
  | obj n => obtain ⟨a, _, rfl⟩ := r; rfl
  | _ => obtain rfl := (show v = _ from r); rfl
theorem is_ok : OpR X (compareOp .Is) (rd2 C (uIs false)) := by
  intro pins s σ H x y v u Q I rx ry h
  obtain ⟨m, g, a, b, R, ra, rb, P⟩ := h
  cases b with
  | non => exact op_isN pins s σ H x y v u Q I rx ry ⟨rb, by rw [non_iff ra]; exact P.bl R⟩
  | bl b => cases a with
    | bl a => exact op_is_bl pins s σ H x y v u Q I rx ry ⟨a, b, ra, rb, P.bl R⟩
    | _ => exact P.elim
  | _ => exact P.elim
theorem isnot_ok : OpR X (compareOp .IsNot) (rd2 C (uIs true)) := by
  intro pins s σ H x y v u Q I rx ry h
  obtain ⟨m, g, a, b, R, ra, rb, P⟩ := h
  cases b with
  | non => exact op_notN pins s σ H x y v u Q I rx ry ⟨rb, by rw [non_iff ra]; exact P.bl R⟩
  | bl b => cases a with
    | bl a => exact op_isnot_bl pins s σ H x y v u Q I rx ry ⟨a, b, ra, rb, P.bl R⟩
    | _ => exact P.elim
  | _ => exact P.elim
theorem flat_of {x : U} {v : V} (h : flatU x = true) (r : RV m x v) : flatV v = true := by
  cases x with
  | obj n => simp [flatU] at h
  | _ => obtain rfl := (show v = _ from r); rfl
theorem eqv_of {x y : U} {v w : V} (hx : flatU x = true) (hy : flatU y = true) (r : RV m x v) (s : RV m y w) : eqV v w = eqvU x y := by
  cases x <;> cases y <;> first | (simp [flatU] at hx; done) | (simp [flatU] at hy; done) | (obtain rfl := (show v = _ from r); obtain rfl := (show w = _ from s); rfl)
theorem in_of {x : U} {v : V} (hx : flatU x = true) (r : RV m x v) : ∀ {xs : List U} {vs : List V}, RVs m xs vs → xs.all flatU = true → vs.all flatV = true ∧ inV v vs = inU x xs
  | _, _, .nil, _ => ⟨rfl, rfl⟩
  | _, _, .cons r' t, h => by
    simp only [List.all_cons, Bool.and_eq_true] at h
    obtain ⟨h1, h2⟩ := in_of hx r t h.2
    refine ⟨by rw [List.all_cons, flat_of h.1 r', h1]; rfl, ?_⟩
    simp only [inV, inU, List.any_cons] at h2 ⊢
    rw [h2, eqv_of h.1 hx r' r]
theorem in_ok : OpR X (compareOp .In) (rd2 C (uIn false)) := by
  intro pins s σ H x y v u Q I rx ry h
  obtain ⟨m, g, a, b, R, ra, rb, P⟩ := h
  unfold uIn at P
  cases b with
  | obj n =>
    obtain ⟨q, hq, rfl⟩ := rb
    simp only at P
    cases e1 : seqAt g n with
    | none => simp only [e1] at P; exact P.elim
    | some p =>
      obtain ⟨b, xs⟩ := p
      simp only [e1] at P
      by_cases hz : flatU a = true ∧ xs.all flatU = true
      · simp only [if_pos hz, Bool.false_eq_true, if_false] at P
        obtain ⟨vs, rv, hl, ht⟩ := R.seq (K := X.K) hq e1
        obtain ⟨h1, h2⟩ := in_of hz.1 ra rv hz.2
        refine op_in_seq pins s σ H x _ v u Q I rx ry ⟨q, vs, rfl, (by cases b with | true => exact .inr (ht rfl) | false => exact .inl (hl rfl)), flat_of hz.1 ra, h1, ?_⟩
        simp only [Bool.false_eq_true, if_false, h2]; exact P.bl R
      · simp only [if_neg hz] at P; exact P.elim
  | _ => exact P.elim
theorem notin_ok : OpR X (compareOp .NotIn) (rd2 C (uIn true)) := by
  intro pins s σ H x y v u Q I rx ry h
  obtain ⟨m, g, a, b, R, ra, rb, P⟩ := h
  unfold uIn at P
  cases b with
  | obj n =>
    obtain ⟨q, hq, rfl⟩ := rb
    simp only at P
    cases e1 : seqAt g n with
    | none => simp only [e1] at P; exact P.elim
    | some p =>
      obtain ⟨b, xs⟩ := p
      simp only [e1] at P
      by_cases hz : flatU a = true ∧ xs.all flatU = true
      · simp only [if_pos hz, if_true] at P
        obtain ⟨vs, rv, hl, ht⟩ := R.seq (K := X.K) hq e1
        obtain ⟨h1, h2⟩ := in_of hz.1 ra rv hz.2
        refine op_notIn_seq pins s σ H x _ v u Q I rx ry ⟨q, vs, rfl, (by cases b with | true => exact .inr (ht rfl) | false => exact .inl (hl rfl)), flat_of hz.1 ra, h1, ?_⟩
        simp only [if_true, h2]; exact P.bl R
      · simp only [if_neg hz] at P; exact P.elim
  | _ => exact P.elim
end
/-- a comparison answers a bool -/
def cmpOf : CmpOp → Option (U → U → Op U)
  | .Eq => some uEq | .NotEq => some uNe | .Lt => some uLt | .LtE => some uLe | .Gt => some uGt | .GtE => some uGe
  | .Is => some (uIs false) | .IsNot => some (uIs true) | .In => some (uIn false) | .NotIn => some (uIn true)
theorem cmpOf_ok {C : Names} {X : Cx} (hu : X.A.units + 64 < cLine) {op : CmpOp} {f : U → U → Op U} (h : cmpOf op = some f) : OpR X (compareOp op) (rd2 C f) := by
  cases op <;> simp only [cmpOf, Option.some.injEq] at h <;> subst h
  all_goals first | exact eq_ok hu | exact ne_ok hu | exact lt_ok | exact le_ok | exact gt_ok | exact ge_ok | exact is_ok | exact isnot_ok | exact in_ok | exact notin_ok
theorem cmpOf_bl {op : CmpOp} {f : U → U → Op U} (h : cmpOf op = some f) : ∀ u w g z g', f u w g = some (z, g') → ∃ k, z = .bl k := by
  have eqg : ∀ neg u w g z g', uEqG neg u w g = some (z, g') → ∃ k, z = .bl k := fun neg u w g z g' e => by
    simp only [uEqG, eqD] at e
    repeat' split at e
    all_goals first | (simp only [Option.some.injEq, Prod.mk.injEq] at e; exact ⟨_, e.1.symm⟩) | cases e
  cases op <;> simp only [cmpOf, Option.some.injEq] at h <;> subst h
  · exact eqg false
  · exact eqg true
  all_goals
    intro u w g z g' e
    simp only [uLt, uLe, uGt, uGe, uIs, uIn] at e
    repeat' split at e
    all_goals first | (simp only [Option.some.injEq, Prod.mk.injEq] at e; exact ⟨_, e.1.symm⟩) | cases e
def binOf : Operator → Option (U → U → Op U)
  | .Add => some uAdd | .Sub => some uSub | .Mult => some uMul | .FloorDiv => some uFdiv | .Mod => some uMod | .Pow => some uPow
  | _ => none
theorem binOf_ok {C : Names} {X : Cx} {op : Operator} {f : U → U → Op U} (h : binOf op = some f) : OpR X (binaryOp op) (rd2 C f) := by
  cases op <;> simp only [binOf, Option.some.injEq, reduceCtorEq] at h <;> subst h
  all_goals first | exact add_ok | exact sub_ok | exact mul_ok | exact mod_ok | exact pow_ok | exact fdiv_ok
end PM

set_option Elab.async false
set_option linter.all false
set_option maxRecDepth 100000
set_option autoImplicit false
namespace PM
open PySem PySem.Spec PyProof.Rows L2

/-! ## built-ins by values -/
def intsOf : List U → Option (List Int)
  | [] => some []
  | .int i :: r => (intsOf r).map (i :: ·)
  | _ => none
def blsOf : List U → Option (List Bool)
  | [] => some []
  | .bl i :: r => (blsOf r).map (i :: ·)
  | _ => none
def ins1 (x : Int) : List Int → List Int
  | [] => [x]
  | y :: r => if x ≤ y then x :: y :: r else y :: ins1 x r
def isort : List Int → List Int
  | [] => []
  | x :: r => ins1 x (isort r)
def maxL : Int → List Int → Int
  | x, [] => x
  | x, y :: r => maxL (if x < y then y else x) r
def minL : Int → List Int → Int
  | x, [] => x
  | x, y :: r => minL (if y < x then y else x) r
def lstAt (g : G) (n : Nat) : Option (List U) := match g[n]? with
  | some (.lst xs) => some xs
  | some (.frz xs) => some xs
  | _ => none
def uLen (xs : List U) : Op U := fun g => match xs with
  | [.str z] => if z.length ≤ sizeLine then some (.int z.length, g) else none
  | [.obj n] => match seqAt g n with | some (_, xs) => some (.int xs.length, g) | none => (match g[n]? with | some (.dct kvs) => some (.int kvs.length, g) | _ => none)
  | _ => none
/-- a dict's keys: integers and strings -/
def keyU : U → Option Key | .int i => some (.inl i) | .str x => some (.inr x) | _ => none
def putU (kvs : List (Key × U)) (k : Key) (u : U) : List (Key × U) := if (kvs.any fun kv => decide (kv.1 = k)) = true then kvs.map (fun kv => if kv.1 = k then (kv.1, u) else kv) else kvs ++ [(k, u)]
def mergeU (kvs more : List (Key × U)) : List (Key × U) := more.foldl (fun acc kv => putU acc kv.1 kv.2) kvs
def pairsU (g : G) : List U → Option (List (Key × U))
  | [] => some []
  | u :: r => match u with
    | .obj n => (match g[n]? with | some (.tup [k, w]) => (keyU k).bind fun k => (pairsU g r).bind fun rest => some ((k, w) :: rest) | _ => none)
    | _ => none
def uDict (xs : List U) : Op U := fun g => match xs with
  | [.obj n] => (match g[n]? with | some (.lst ps) => (match pairsU g ps with | some kvs => push g (.dct (mergeU [] kvs)) | none => none) | _ => none)
  | _ => none
def uAbs (xs : List U) : Op U := fun g => match xs with | [.int i] => some (.int (if i < 0 then -i else i), g) | _ => none
def uInt (xs : List U) : Op U := fun g => match xs with | [.int i] => some (.int i, g) | [.bl k] => some (.int (if k then 1 else 0), g) | _ => none
def uMax (xs : List U) : Op U := fun g => match xs with
  | [.int i, .int j] => some (.int (if j > i then j else i), g)
  | [.obj n] => match (lstAt g n).bind intsOf with | some (i :: r) => some (.int (maxL i r), g) | _ => none
  | _ => none
def uMin (xs : List U) : Op U := fun g => match xs with
  | [.int i, .int j] => some (.int (if j < i then j else i), g)
  | [.obj n] => match (lstAt g n).bind intsOf with | some (i :: r) => some (.int (minL i r), g) | _ => none
  | _ => none
def uSum (xs : List U) : Op U := fun g => match xs with
  | [.obj n] => match (lstAt g n).bind intsOf with | some r => some (.int r.sum, g) | _ => none
  | _ => none
def uAll (xs : List U) : Op U := fun g => match xs with
  | [.obj n] => match (lstAt g n).bind blsOf with | some r => some (.bl (r.all id), g) | _ => none
  | _ => none
def uAny (xs : List U) : Op U := fun g => match xs with
  | [.obj n] => match (lstAt g n).bind blsOf with | some r => some (.bl (r.any id), g) | _ => none
  | _ => none
def uList (xs : List U) : Op U := fun g => match xs with
  | [.obj n] => match seqAt g n with | some (_, xs) => push g (.lst xs) | none => none
  | _ => none
def uTuple (xs : List U) : Op U := fun g => match xs with
  | [.obj n] => match seqAt g n with | some (true, _) => some (.obj n, g) | some (false, xs) => push g (.tup xs) | none => none
  | _ => none
def uSorted (xs : List U) : Op U := fun g => match xs with
  | [.obj n] => match (lstAt g n).bind intsOf with | some r => push g (.lst ((isort r).map U.int)) | _ => none
  | _ => none
def uDivmod (xs : List U) : Op U := fun g => match xs with
  | [.int i, .int j] => if 0 < j ∧ j < 1073741824 then push g (.tup [.int (i / j), .int (i % j)]) else none
  | _ => none
def atU (xs : List U) (i : Int) : Option U := if 0 ≤ i then xs[i.toNat]? else if -(xs.length : Int) ≤ i then xs[(i + xs.length).toNat]? else none
def uIdx (x y : U) : Op U := fun g => match x, y with
  | .obj n, .int i => match seqAt g n with | some (_, xs) => (atU xs i).map (·, g) | none => none
  | .str z, .int i => if z.length ≤ sizeLine then (atI z.cps.toList i).map fun c => (.str ⟨#[c]⟩, g) else none
  | _, _ => none
def cutU (xs : List U) (lo hi : Option Int) : List U := (xs.drop (HT.sIx xs.length 0 lo)).take (HT.sIx xs.length xs.length hi - HT.sIx xs.length 0 lo)
def uSl (x : U) (lo hi : Option Int) : Op U := fun g => match x with
  | .str z => if z.length ≤ sizeLine then some (.str (cutS z lo hi), g) else none
  | .obj n => match seqAt g n with
    | some (false, xs) => push g (.lst (cutU xs lo hi))
    | some (true, xs) => if HT.sIx xs.length 0 lo = 0 ∧ HT.sIx xs.length xs.length hi = xs.length then some (.obj n, g) else push g (.tup (cutU xs lo hi))
    | none => none
  | _ => none
/-! methods of lists -/
def put (g : G) (n : Nat) (o : O) (u : U) : Option (U × G) := some (u, g.set n o)
def uAppend (x : U) (ys : List U) : Op U := fun g => match x, ys with
  | .obj n, [y] => match g[n]? with | some (.lst xs) => if xs.length < sizeLine then put g n (.lst (xs ++ [y])) .non else none | _ => none
  | _, _ => none
def uExtend (x : U) (ys : List U) : Op U := fun g => match x, ys with
  | .obj n, [.obj k] => match g[n]?, g[k]? with | some (.lst xs), some (.lst zs) => if xs.length + zs.length ≤ sizeLine then put g n (.lst (xs ++ zs)) .non else none | _, _ => none
  | _, _ => none
def uInsert (x : U) (ys : List U) : Op U := fun g => match x, ys with
  | .obj n, [.int i, y] => match g[n]? with | some (.lst xs) => if xs.length < sizeLine ∧ 0 ≤ i ∧ i < 2 ^ 63 then put g n (.lst (xs.take i.toNat ++ [y] ++ xs.drop i.toNat)) .non else none | _ => none
  | _, _ => none
def uPopAt (x : U) (ys : List U) : Op U := fun g => match x, ys with
  | .obj n, [.int i] => match g[n]? with
    | some (.lst xs) => if -(2 ^ 63) ≤ i ∧ i < 2 ^ 63 then (match seqIndex? i xs.length with | some k => (match xs[k]? with | some y => put g n (.lst (xs.eraseIdx k)) y | none => none) | none => none) else none
    | _ => none
  | _, _ => none
def uPop0 (x : U) (_ : List U) : Op U := fun g => match x with
  | .obj n => match g[n]? with | some (.lst xs) => (match xs[xs.length - 1]? with | some y => put g n (.lst xs.dropLast) y | none => none) | _ => none
  | _ => none
/-- o[i] = v -/
def uSet (o i v : U) : Op Unit := fun g => match o, i with
  | .obj n, .int i => match g[n]? with | some (.lst xs) => (match ixN xs.length i with | some j => some ((), g.set n (.lst (xs.set j v))) | none => none) | _ => none
  | _, _ => none
section
variable {C : Names} {X : Cx} {m : List Addr} {g : G} {H : Hp} {a : Addr} {n : Nat} {xs : List U}
theorem rv_ints {ns : List Int} : ∀ {xs : List U} {vs : List V}, intsOf xs = some ns → RVs m xs vs → vs = ns.map V.int := by
  intro xs
  induction xs generalizing ns with
  | nil => intro vs h r; cases r; simp [intsOf] at h; subst h; rfl
  | cons x r ih =>
    intro vs h rr
    cases rr with
    | cons r1 t =>
      cases x with
      | int i =>
        simp only [intsOf, Option.map_eq_some_iff] at h
        obtain ⟨ms, h1, rfl⟩ := h
        obtain rfl := (show _ = V.int i from r1)
        rw [ih h1 t]; rfl
      | _ => simp [intsOf] at h
theorem rv_bls {ns : List Bool} : ∀ {xs : List U} {vs : List V}, blsOf xs = some ns → RVs m xs vs → vs = ns.map V.bl := by
  intro xs
  induction xs generalizing ns with
  | nil => intro vs h r; cases r; simp [blsOf] at h; subst h; rfl
  | cons x r ih =>
    intro vs h rr
    cases rr with
    | cons r1 t =>
      cases x with
      | bl i =>
        simp only [blsOf, Option.map_eq_some_iff] at h
        obtain ⟨ms, h1, rfl⟩ := h
        obtain rfl := (show _ = V.bl i from r1)
        rw [ih h1 t]; rfl
      | _ => simp [blsOf] at h
theorem ints_rv (ns : List Int) : RVs m (ns.map U.int) (ns.map V.int) := by
  induction ns with
  | nil => exact .nil
  | cons x r ih => exact .cons rfl ih
theorem lst_seq (h : lstAt g n = some xs) : seqAt g n = some (false, xs) := by
  unfold lstAt at h; unfold seqAt
  split at h <;> first | (simp only [Option.some.injEq] at h; subst h; simp [*]; done) | cases h
theorem Rel.ints (R : Rel C m g H) {K : PySem.W.Frag} {ns : List Int} (hn : m[n]? = some a) (e : (lstAt g n).bind intsOf = some ns) : SqL K H a (ns.map V.int) := by
  cases q : lstAt g n with
  | none => rw [q] at e; cases e
  | some xs =>
    rw [q] at e
    obtain ⟨vs, rv, hl, _⟩ := R.seq (K := K) hn (lst_seq q)
    rw [← rv_ints e rv]; exact hl rfl
theorem Rel.bls (R : Rel C m g H) {K : PySem.W.Frag} {ns : List Bool} (hn : m[n]? = some a) (e : (lstAt g n).bind blsOf = some ns) : SqL K H a (ns.map V.bl) := by
  cases q : lstAt g n with
  | none => rw [q] at e; cases e
  | some xs =>
    rw [q] at e
    obtain ⟨vs, rv, hl, _⟩ := R.seq (K := K) hn (lst_seq q)
    rw [← rv_bls e rv]; exact hl rfl
theorem maxL_ok : ∀ (r : List Int) (x : Int), maxL x r ∈ x :: r ∧ ∀ y ∈ x :: r, y ≤ maxL x r
  | [], x => ⟨by simp [maxL], by simp [maxL]⟩
  | y :: r, x => by
    obtain ⟨h1, h2⟩ := maxL_ok r (if x < y then y else x)
    simp only [maxL, List.mem_cons, forall_eq_or_imp] at h1 h2 ⊢
    refine ⟨?_, ?_, ?_, h2.2⟩
    · rcases h1 with h1 | h1
      · rw [h1]; split <;> simp
      · exact .inr (.inr h1)
    · exact Int.le_trans (by split <;> omega) h2.1
    · exact Int.le_trans (by split <;> omega) h2.1
theorem minL_ok : ∀ (r : List Int) (x : Int), minL x r ∈ x :: r ∧ ∀ y ∈ x :: r, minL x r ≤ y
  | [], x => ⟨by simp [minL], by simp [minL]⟩
  | y :: r, x => by
    obtain ⟨h1, h2⟩ := minL_ok r (if y < x then y else x)
    simp only [minL, List.mem_cons, forall_eq_or_imp] at h1 h2 ⊢
    refine ⟨?_, ?_, ?_, h2.2⟩
    · rcases h1 with h1 | h1
      · rw [h1]; split <;> simp
      · exact .inr (.inr h1)
    · exact Int.le_trans h2.1 (by split <;> omega)
    · exact Int.le_trans h2.1 (by split <;> omega)
theorem ins1_perm (x : Int) : ∀ l : List Int, (ins1 x l).Perm (x :: l)
  | [] => .refl _
  | y :: r => by
    unfold ins1; split
    · exact .refl _
    · exact (List.Perm.cons y (ins1_perm x r)).trans (List.Perm.swap x y r)
theorem ins1_sorted (x : Int) : ∀ l : List Int, l.Pairwise (· ≤ ·) → (ins1 x l).Pairwise (· ≤ ·)
  | [], _ => by simp [ins1]
  | y :: r, h => by
    unfold ins1
    split
    · rename_i h1
      rw [List.pairwise_cons] at h ⊢
      refine ⟨fun z hz => ?_, by rw [List.pairwise_cons]; exact h⟩
      rcases List.mem_cons.mp hz with rfl | hz
      · exact h1
      · exact Int.le_trans h1 (h.1 z hz)
    · rename_i h1
      rw [List.pairwise_cons] at h ⊢
      refine ⟨fun z hz => ?_, ins1_sorted x r h.2⟩
      rcases List.mem_cons.mp ((ins1_perm x r).mem_iff.mp hz) with rfl | hz
      · omega
      · exact h.1 z hz
theorem isort_perm : ∀ l : List Int, (isort l).Perm l
  | [] => .refl _
  | x :: r => (ins1_perm x _).trans (List.Perm.cons x (isort_perm r))
theorem isort_sorted : ∀ l : List Int, (isort l).Pairwise (· ≤ ·)
  | [] => .nil
  | x :: r => ins1_sorted x _ (isort_sorted r)
theorem sorted_uniq : ∀ {l l' : List Int}, l.Perm l' → l.Pairwise (· ≤ ·) → l'.Pairwise (· ≤ ·) → l = l' := fun p h h' =>
  List.Perm.eq_of_pairwise (fun a b _ _ h1 h2 => Int.le_antisymm h1 h2) h h' p
theorem one_int {u : U} {v : V} {i : Int} (h : u = .int i) (r : RV m u v) : v = .int i := by subst h; exact r
theorem len_ok : CallR X (.builtin "len") (rdN C uLen) := by
  intro pins s σ H vs us Q I rv h
  obtain ⟨m, g, ws, R, ra, P⟩ := h
  unfold uLen at P
  match ws, ra, P with
  | [.str z], .cons r .nil, P =>
    obtain rfl := (show _ = V.str z from r)
    by_cases hz : z.length ≤ sizeLine
    · simp only [if_pos hz] at P; exact call_len_str pins s σ H _ us Q I rv ⟨z, rfl, hz, P.val R rfl⟩
    · simp only [if_neg hz] at P; exact P.elim
  | [.obj n], .cons r .nil, P =>
    obtain ⟨q, hq, rfl⟩ := r
    simp only at P
    cases e1 : seqAt g n with
    | none =>
      simp only [e1] at P
      cases e2 : g[n]? with
      | none => simp only [e2] at P; exact P.elim
      | some o => cases o with
        | dct kvs =>
          simp only [e2] at P
          obtain ⟨vs, h1, h2⟩ := R.at_ n q _ hq e2
          exact call_lenD pins s σ H _ us Q I rv ⟨q, vs, rfl, h1, by rw [← Paired.len h2]; exact P.val R rfl⟩
        | _ => simp only [e2] at P; exact P.elim
    | some p =>
      obtain ⟨b, xs⟩ := p
      simp only [e1] at P
      obtain ⟨vs, rv', hl, ht⟩ := R.seq (K := X.K) hq e1
      refine call_len_seq pins s σ H _ us Q I rv ⟨q, vs, rfl, (by cases b with | true => exact .inr (ht rfl) | false => exact .inl (hl rfl)), ?_⟩
      rw [← Paired.len rv']; exact P.val R rfl
theorem abs_ok : CallR X (.builtin "abs") (rdN C uAbs) := by
  intro pins s σ H vs us Q I rv h
  obtain ⟨m, g, ws, R, ra, P⟩ := h
  unfold uAbs at P
  match ws, ra, P with
  | [.int i], .cons r .nil, P =>
    obtain rfl := (show _ = V.int i from r)
    exact call_abs pins s σ H _ us Q I rv ⟨i, rfl, P.val R rfl⟩
theorem int_ok : CallR X (.type "int") (rdN C uInt) := by
  intro pins s σ H vs us Q I rv h
  obtain ⟨m, g, ws, R, ra, P⟩ := h
  unfold uInt at P
  match ws, ra, P with
  | [.int i], .cons r .nil, P =>
    obtain rfl := (show _ = V.int i from r)
    exact call_int1 pins s σ H _ us Q I rv (.inl ⟨i, rfl, P.val R rfl⟩)
  | [.bl i], .cons r .nil, P =>
    obtain rfl := (show _ = V.bl i from r)
    exact call_int1 pins s σ H _ us Q I rv (.inr ⟨i, rfl, P.val R rfl⟩)
theorem max_ok (hc : X.calm = true) : CallR X (.builtin "max") (rdN C uMax) := by
  intro pins s σ H vs us Q I rv h
  obtain ⟨m, g, ws, R, ra, P⟩ := h
  unfold uMax at P
  match ws, ra, P with
  | [.int i, .int j], .cons r (.cons r2 .nil), P =>
    obtain rfl := (show _ = V.int i from r)
    obtain rfl := (show _ = V.int j from r2)
    exact call_max2 hc pins s σ H _ us Q I rv ⟨i, j, rfl, P.val R rfl⟩
  | [.obj n], .cons r .nil, P =>
    obtain ⟨q, hq, rfl⟩ := r
    simp only at P
    cases e1 : (lstAt g n).bind intsOf with
    | none => simp only [e1] at P; exact P.elim
    | some l => cases l with
      | nil => simp only [e1] at P; exact P.elim
      | cons i r =>
        simp only [e1] at P
        refine cr_max hc pins s σ H _ us Q I rv ⟨q, i :: r, rfl, R.ints hq e1, by simp, fun k h1 h2 => ?_⟩
        obtain ⟨h3, h4⟩ := maxL_ok r i
        have : k = maxL i r := Int.le_antisymm (h4 k h1) (h2 _ h3)
        subst this
        exact P.val R rfl
theorem min_ok (hc : X.calm = true) : CallR X (.builtin "min") (rdN C uMin) := by
  intro pins s σ H vs us Q I rv h
  obtain ⟨m, g, ws, R, ra, P⟩ := h
  unfold uMin at P
  match ws, ra, P with
  | [.int i, .int j], .cons r (.cons r2 .nil), P =>
    obtain rfl := (show _ = V.int i from r)
    obtain rfl := (show _ = V.int j from r2)
    exact call_min2 hc pins s σ H _ us Q I rv ⟨i, j, rfl, P.val R rfl⟩
  | [.obj n], .cons r .nil, P =>
    obtain ⟨q, hq, rfl⟩ := r
    simp only at P
    cases e1 : (lstAt g n).bind intsOf with
    | none => simp only [e1] at P; exact P.elim
    | some l => cases l with
      | nil => simp only [e1] at P; exact P.elim
      | cons i r =>
        simp only [e1] at P
        refine cr_min hc pins s σ H _ us Q I rv ⟨q, i :: r, rfl, R.ints hq e1, by simp, fun k h1 h2 => ?_⟩
        obtain ⟨h3, h4⟩ := minL_ok r i
        have : k = minL i r := Int.le_antisymm (h2 _ h3) (h4 k h1)
        subst this
        exact P.val R rfl
theorem sum_ok (hc : X.calm = true) : CallR X (.builtin "sum") (rdN C uSum) := by
  intro pins s σ H vs us Q I rv h
  obtain ⟨m, g, ws, R, ra, P⟩ := h
  unfold uSum at P
  match ws, ra, P with
  | [.obj n], .cons r .nil, P =>
    obtain ⟨q, hq, rfl⟩ := r
    simp only at P
    cases e1 : (lstAt g n).bind intsOf with
    | none => simp only [e1] at P; exact P.elim
    | some l => simp only [e1] at P; exact cr_sum hc pins s σ H _ us Q I rv ⟨q, l, rfl, R.ints hq e1, P.val R rfl⟩
theorem all_ok (hc : X.calm = true) : CallR X (.builtin "all") (rdN C uAll) := by
  intro pins s σ H vs us Q I rv h
  obtain ⟨m, g, ws, R, ra, P⟩ := h
  unfold uAll at P
  match ws, ra, P with
  | [.obj n], .cons r .nil, P =>
    obtain ⟨q, hq, rfl⟩ := r
    simp only at P
    cases e1 : (lstAt g n).bind blsOf with
    | none => simp only [e1] at P; exact P.elim
    | some l => simp only [e1] at P; exact cr_all hc pins s σ H _ us Q I rv ⟨q, l, rfl, R.bls hq e1, P.val R rfl⟩
theorem any_ok (hc : X.calm = true) : CallR X (.builtin "any") (rdN C uAny) := by
  intro pins s σ H vs us Q I rv h
  obtain ⟨m, g, ws, R, ra, P⟩ := h
  unfold uAny at P
  match ws, ra, P with
  | [.obj n], .cons r .nil, P =>
    obtain ⟨q, hq, rfl⟩ := r
    simp only at P
    cases e1 : (lstAt g n).bind blsOf with
    | none => simp only [e1] at P; exact P.elim
    | some l => simp only [e1] at P; exact cr_any hc pins s σ H _ us Q I rv ⟨q, l, rfl, R.bls hq e1, P.val R rfl⟩
theorem sorted_ok : CallR X (.builtin "sorted") (rdN C uSorted) := by
  intro pins s σ H vs us Q I rv h
  obtain ⟨m, g, ws, R, ra, P⟩ := h
  unfold uSorted at P
  match ws, ra, P with
  | [.obj n], .cons r .nil, P =>
    obtain ⟨q, hq, rfl⟩ := r
    simp only at P
    cases e1 : (lstAt g n).bind intsOf with
    | none => simp only [e1] at P; exact P.elim
    | some l =>
      simp only [e1] at P
      refine cr_sortedI pins s σ H _ us Q I rv ⟨q, l, rfl, R.ints hq e1, fun ns' p h1 h2 hp => ?_⟩
      have : ns' = isort l := sorted_uniq (h1.trans (isort_perm l).symm) h2 (isort_sorted l)
      subst this
      exact P.new R (fun p hp => ro_lst (ints_rv _)) p hp
theorem RKV.map {kvs : List (Key × U)} {vs : List (Key × V)} {k : Key} {u : U} {v : V} (h : RKV m kvs vs) (r : RV m u v) : RKV m (kvs.map fun kv => if kv.1 = k then (kv.1, u) else kv) (vs.map fun kv => if kv.1 = k then (kv.1, v) else kv) := by
  induction h with
  | nil => exact .nil
  | @cons p q ps qs a t ih =>
    refine .cons ?_ ih
    obtain ⟨h1, h2⟩ := a
    by_cases e : p.1 = k
    · simp only []
      rw [if_pos e, if_pos (by rw [← h1]; exact e)]; exact ⟨h1, r⟩
    · simp only []
      rw [if_neg e, if_neg (by rw [← h1]; exact e)]; exact ⟨h1, h2⟩
theorem RKV.any {kvs : List (Key × U)} {vs : List (Key × V)} {k : Key} (h : RKV m kvs vs) : (kvs.any fun kv => decide (kv.1 = k)) = (vs.any fun kv => decide (kv.1 = k)) := by
  induction h with
  | nil => rfl
  | @cons p q ps qs a t ih => simp only [List.any_cons, ih, a.1]
theorem RKV.snoc {kvs : List (Key × U)} {vs : List (Key × V)} {k : Key} {u : U} {v : V} (h : RKV m kvs vs) (r : RV m u v) : RKV m (kvs ++ [(k, u)]) (vs ++ [(k, v)]) := by
  induction h with
  | nil => exact .cons ⟨rfl, r⟩ .nil
  | cons a t ih => exact .cons a ih
theorem RKV.put {kvs : List (Key × U)} {vs : List (Key × V)} {k : Key} {u : U} {v : V} (h : RKV m kvs vs) (r : RV m u v) : RKV m (putU kvs k u) (putK vs k v) := by
  unfold putU putK
  by_cases e : (kvs.any fun kv => decide (kv.1 = k)) = true
  · rw [if_pos e, if_pos (by rw [← h.any]; exact e)]; exact h.map r
  · rw [if_neg e, if_neg (by rw [← h.any]; exact e)]; exact h.snoc r
theorem RKV.merge {more : List (Key × U)} {rs : List (Key × V)} (h : RKV m more rs) : ∀ {kvs : List (Key × U)} {vs : List (Key × V)}, RKV m kvs vs → RKV m (mergeU kvs more) (mergeK vs rs) := by
  induction h with
  | nil => exact fun q => q
  | @cons p q ps qs a t ih => exact fun q0 => ih (by have := q0.put (k := p.1) a.2; simp only [] at this ⊢; rw [← a.1]; exact this)
theorem keyU_ok {u : U} {v : V} {k : Key} (h : keyU u = some k) (r : RV m u v) : v = kV k := by
  cases u with
  | int i => cases h; exact r
  | str x => cases h; exact r
  | _ => cases h
theorem pairsU_ok {K : PySem.W.Frag} (R : Rel C m g H) : ∀ {ps : List U} {qs : List V} {kvs : List (Key × U)}, pairsU g ps = some kvs → RVs m ps qs →
    ∃ (as : List Addr) (vs : List (Key × V)), qs = as.map V.ref ∧ RKV m kvs vs ∧ Paired (fun p kv => SqT K H p [kV kv.1, kv.2]) as vs
  | [], _, _, h, .nil => by cases h; exact ⟨[], [], rfl, .nil, .nil⟩
  | u :: ps, _, _, h, .cons r t => by
    unfold pairsU at h
    split at h
    · rename_i n
      split at h
      · rename_i k w e1
        simp only [Option.bind_eq_some_iff] at h
        obtain ⟨k', h1, rest, h2, h3⟩ := h; cases h3
        obtain ⟨as, vs, e2, e3, e4⟩ := pairsU_ok R h2 t
        obtain ⟨a, ha, rfl⟩ := r
        obtain ⟨ws, h4, h5⟩ := R.at_ n a _ ha e1
        match ws, h5, h4 with
        | [x, y], .cons r1 (.cons r2 .nil), h4 =>
          refine ⟨a :: as, (k', y) :: vs, by rw [e2]; rfl, .cons ⟨rfl, r2⟩ e3, .cons ?_ e4⟩
          have := keyU_ok h1 r1
          subst this
          exact SqT.of h4
      · cases h
    · cases h
theorem dict_ok (hc : X.calm = true) : CallR X (.type "dict") (rdN C uDict) := by
  intro pins s σ H vs us Q I rv h
  obtain ⟨m, g, ws, R, ra, P⟩ := h
  unfold uDict at P
  match ws, ra, P with
  | [.obj n], .cons r .nil, P =>
    obtain ⟨q, hq, rfl⟩ := r
    simp only at P
    cases e1 : g[n]? with
    | none => simp only [e1] at P; exact P.elim
    | some o => cases o with
      | lst ps =>
        simp only [e1] at P
        cases e2 : pairsU g ps with
        | none => simp only [e2] at P; exact P.elim
        | some kvs =>
          simp only [e2] at P
          obtain ⟨vs, rv', h1⟩ := R.lst hq e1
          obtain ⟨as, ks, e3, e4, e5⟩ := pairsU_ok (K := X.K) R e2 rv'
          subst e3
          exact call_dictP hc pins s σ H _ us Q I rv ⟨q, as, ks, rfl, SqL.of h1, e5, P.new R fun p hp => ⟨_, upd_same, RKV.ext (fun _ _ h => getElem?_snoc h) (RKV.merge e4 .nil)⟩⟩
      | _ => simp only [e1] at P; exact P.elim
theorem list_ok : CallR X (.type "list") (rdN C uList) := by
  intro pins s σ H vs us Q I rv h
  obtain ⟨m, g, ws, R, ra, P⟩ := h
  unfold uList at P
  match ws, ra, P with
  | [.obj n], .cons r .nil, P =>
    obtain ⟨q, hq, rfl⟩ := r
    simp only at P
    cases e1 : seqAt g n with
    | none => simp only [e1] at P; exact P.elim
    | some p =>
      obtain ⟨b, xs⟩ := p
      simp only [e1] at P
      obtain ⟨vs, rv', hl, ht⟩ := R.seq (K := X.K) hq e1
      exact call_list_of pins s σ H _ us Q I rv ⟨q, vs, rfl, (by cases b with | true => exact .inr (ht rfl) | false => exact .inl (hl rfl)), P.new R fun p hp => ro_lst rv'⟩
theorem tuple_ok : CallR X (.type "tuple") (rdN C uTuple) := by
  intro pins s σ H vs us Q I rv h
  obtain ⟨m, g, ws, R, ra, P⟩ := h
  unfold uTuple at P
  match ws, ra, P with
  | [.obj n], .cons r .nil, P =>
    obtain ⟨q, hq, rfl⟩ := r
    simp only at P
    cases e1 : seqAt g n with
    | none => simp only [e1] at P; exact P.elim
    | some p =>
      obtain ⟨b, xs⟩ := p
      simp only [e1] at P
      obtain ⟨vs, rv', hl, ht⟩ := R.seq (K := X.K) hq e1
      cases b with
      | true => exact call_tuple_of pins s σ H _ us Q I rv ⟨q, vs, rfl, .inr ⟨ht rfl, P.val R ⟨q, hq, rfl⟩⟩⟩
      | false => exact call_tuple_of pins s σ H _ us Q I rv ⟨q, vs, rfl, .inl ⟨hl rfl, P.new R fun p hp => ro_tup rv'⟩⟩
theorem divmod_ok : CallR X (.builtin "divmod") (rdN C uDivmod) := by
  intro pins s σ H vs us Q I rv h
  obtain ⟨m, g, ws, R, ra, P⟩ := h
  unfold uDivmod at P
  match ws, ra, P with
  | [.int i, .int j], .cons r (.cons r2 .nil), P =>
    obtain rfl := (show _ = V.int i from r)
    obtain rfl := (show _ = V.int j from r2)
    by_cases hz : 0 < j ∧ j < 1073741824
    · simp only [if_pos hz] at P
      exact call_divmod pins s σ H _ us Q I rv ⟨i, j, rfl, hz, P.new R fun p hp => ro_tup (.cons rfl (.cons rfl .nil))⟩
    · simp only [if_neg hz] at P; exact P.elim
/-! ### subscripts -/
theorem atU_at {xs : List U} {vs : List V} (r : RVs m xs vs) {i : Int} {u : U} (h : atU xs i = some u) : ∃ v, atI vs i = some v ∧ RV m u v := by
  have hl := Paired.len r
  unfold atU at h
  unfold atI ixN
  split at h
  · rename_i h0
    obtain ⟨v, h1, h2⟩ := Paired.get r h
    have := (List.getElem?_eq_some_iff.mp h1).1
    refine ⟨v, ?_, h2⟩
    rw [if_pos h0, if_pos (by omega)]; exact h1
  · rename_i h0
    split at h
    · rename_i h3
      obtain ⟨v, h1, h2⟩ := Paired.get r h
      refine ⟨v, ?_, h2⟩
      rw [if_neg h0, if_pos (by omega), ← hl]; exact h1
    · cases h
theorem idx_ok : IxR X (rd2 C uIdx) := by
  intro value slice pins s σ H x y v u Q I rx ry h hsub
  obtain ⟨m, g, a, b, R, ra, rb, P⟩ := h
  unfold uIdx at P
  cases a with
  | obj n => cases b with
    | int i =>
      obtain ⟨q, hq, rfl⟩ := ra
      obtain rfl := (show y = V.int i from rb)
      simp only at P
      cases e1 : seqAt g n with
      | none => simp only [e1] at P; exact P.elim
      | some p =>
        obtain ⟨b, xs⟩ := p
        simp only [e1] at P
        obtain ⟨vs, rv', hl, ht⟩ := R.seq (K := X.K) hq e1
        cases e2 : atU xs i with
        | none => simp only [e2] at P; exact P.elim
        | some w =>
          simp only [e2, Option.map_some] at P
          obtain ⟨w', h1, h2⟩ := atU_at rv' e2
          cases b with
          | true => exact ix_tup value slice pins s σ H _ _ v u Q I rx ry ⟨q, vs, i, w', rfl, rfl, ht rfl, h1, P.val R h2⟩ hsub
          | false => exact ix_list value slice pins s σ H _ _ v u Q I rx ry ⟨q, vs, i, w', rfl, rfl, hl rfl, h1, P.val R h2⟩ hsub
    | _ => exact P.elim
  | str z => cases b with
    | int i =>
      obtain rfl := (show x = V.str z from ra)
      obtain rfl := (show y = V.int i from rb)
      by_cases hz : z.length ≤ sizeLine
      · simp only [if_pos hz] at P
        cases e2 : atI z.cps.toList i with
        | none => simp only [e2] at P; exact P.elim
        | some c => simp only [e2, Option.map_some] at P; exact ix_str value slice pins s σ H _ _ v u Q I rx ry ⟨z, i, c, rfl, rfl, hz, e2, P.val R rfl⟩ hsub
      · simp only [if_neg hz] at P; exact P.elim
    | _ => exact P.elim
  | _ => cases b <;> exact P.elim
def rd1s (C : Names) (f : U → Option Int → Option Int → Op U) : V → Option Int → Option Int → Hp → VK → Prop := fun x lo hi H Q => ∃ m g u, Rel C m g H ∧ RV m u x ∧ PostP C RV m H Q (f u lo hi g)
theorem cut_rv {xs : List U} {vs : List V} (r : RVs m xs vs) (lo hi : Option Int) : RVs m (cutU xs lo hi) (cutV vs lo hi) := by
  unfold cutU cutV; rw [Paired.len r]; exact Paired.take (Paired.drop r _) _
theorem sl_ok : SlR X (rd1s C uSl) := by
  intro pins s σ H x v vl vu lo hi sl Q I rx hsl pl pu h
  obtain ⟨m, g, a, R, ra, P⟩ := h
  unfold uSl at P
  cases a with
  | str z =>
    obtain rfl := (show x = V.str z from ra)
    by_cases hz : z.length ≤ sizeLine
    · simp only [if_pos hz] at P; exact sl_str pins s σ H _ v vl vu lo hi sl Q I rx hsl pl pu ⟨z, rfl, hz, P.val R rfl⟩
    · simp only [if_neg hz] at P; exact P.elim
  | obj n =>
    obtain ⟨q, hq, rfl⟩ := ra
    simp only at P
    cases e1 : seqAt g n with
    | none => simp only [e1] at P; exact P.elim
    | some p =>
      obtain ⟨b, xs⟩ := p
      simp only [e1] at P
      obtain ⟨vs, rv', hl, ht⟩ := R.seq (K := X.K) hq e1
      cases b with
      | false => exact sl_list pins s σ H _ v vl vu lo hi sl Q I rx hsl pl pu ⟨q, vs, rfl, hl rfl, P.new R fun p hp => ro_lst (cut_rv rv' lo hi)⟩
      | true =>
        refine sl_tupA pins s σ H _ v vl vu lo hi sl Q I rx hsl pl pu ⟨q, vs, rfl, ht rfl, fun e => ?_, fun e => ?_⟩
        · rw [← Paired.len rv'] at e; simp only [if_pos e] at P; exact P.val R ⟨q, hq, rfl⟩
        · rw [← Paired.len rv'] at e; simp only [if_neg e] at P; exact P.new R fun p hp => ro_tup (cut_rv rv' lo hi)
  | _ => exact P.elim
end
end PM

set_option Elab.async false
set_option linter.all false
set_option maxRecDepth 100000
set_option autoImplicit false
namespace PM
open PySem PySem.Spec PyProof.Rows L2

/-- a built-in method: the receiver is looked at before the arguments are -/
def eMe (ty : U → G → Bool) (f : U → List U → Op U) (o : E) (a : A) : E := fun τ g => bnd (o τ g) fun x g => if ty x g = true then bnd (a τ g) fun xs => lift (f x xs) else .stuck
def isLstU (x : U) (g : G) : Bool := match x with | .obj n => (match g[n]? with | some (.lst _) => true | _ => false) | _ => false
/-- types that isinstance asks for -/
inductive Ty where
  | non | bool | int | str | list | tuple | dict
  deriving DecidableEq
def Ty.name : Ty → String
  | .non => "NoneType" | .bool => "bool" | .int => "int" | .str => "str" | .list => "list" | .tuple => "tuple" | .dict => "dict"
def tyU (g : G) : U → Option Ty
  | .non => some .non
  | .bl _ => some .bool
  | .int _ => some .int
  | .str _ => some .str
  | .obj n => match g[n]? with
    | some (.lst _) => some .list
    | some (.frz _) => some .list
    | some (.tup _) => some .tuple
    | some (.dct _) => some .dict
    | _ => none
def isiT (t T : Ty) : Bool := t == T || (t == .bool && T == .int)
def uIsI (ts : List Ty) (x : U) : Op U := fun g => match tyU g x with
  | some t => some (.bl (ts.any (isiT t)), g)
  | none => none
section
variable {C : Names} {e : Option (Nat × Addr × Nat × Addr)} {W : WX} {X : Cx} {a b c : Expr} {ta tb tc : E} {pos p : Pos} {es : List Expr} {aa ak : A} {σ : L2.St} {H : Hp} {x : Str}
theorem Rel.keep {C : Names} {m : List Addr} {g : G} {H H' : Hp} (R : Rel C m g H) (k : ∀ a o, H a = some o → H' a = some o) : Rel C m g H' :=
  ⟨R.len, R.nd, fun n a o h1 h2 => (R.at_ n a o h1 h2).ext (fun _ _ h => h) (k a)⟩
theorem Ext.keep {m : List Addr} {H H' : Hp} (k : ∀ a o, H a = some o → H' a = some o) : Ext m H m H' := ⟨fun _ _ h => h, fun _ h => .inl h, fun a o h _ => k a o h⟩
theorem keep_upd {H : Hp} {p : Addr} {u : HO} (hp : H p = none) : ∀ a o, H a = some o → (upd H p u) a = some o := fun a o h => by rw [upd_ne (ne_of_none h hp)]; exact h
theorem ro_put {C : Names} {m : List Addr} {q : Addr} {H : Hp} {xs : List U} {vs : List V} (h : RVs m xs vs) : RO C m (.lst xs) q (upd H q (.lst vs)) := ⟨vs, upd_same, h⟩
theorem ja_nil : JA C e W X [] aNil := pa_nil.imp fun σ H Q h => by
  obtain ⟨m, g, τ, hR, hS, hP⟩ := h
  exact hP.val hR .nil
theorem ja_cons (ha : JE C e W X a ta) (hr : JA C e W X es aa) (hs : starEach (a :: es) X.env = (false, eval a X.env) :: starEach es X.env) : JA C e W X (a :: es) (aCons ta aa) := (pa_cons ha hr hs).imp fun σ H Q h => by
  obtain ⟨m, g, τ, hR, hS, hP⟩ := h
  refine ⟨m, g, τ, hR, hS, (Post.bnd (R := RV) hP).imp ?_⟩
  rintro v H1 ⟨u, m1, g1, x1, R1, rv, P1⟩
  refine ⟨m1, g1, τ, R1, hS.ext x1.pre, (Post.bnd (R := RVs) P1).imp ?_⟩
  rintro vs H2 ⟨us, m2, g2, x2, R2, rv2, P2⟩
  exact P2.val R2 (.cons (rv.ext x2.pre) rv2)
theorem jk_nil : JK C e W X [] aNil := pk_nil.imp fun σ H Q h => by
  obtain ⟨m, g, τ, hR, hS, hP⟩ := h
  exact hP.val hR .nil
theorem jk_cons {kws : List Keyword} {nm : Option Str} (ha : JE C e W X a ta) (hr : JK C e W X kws aa) : JK C e W X (⟨nm, a, pos⟩ :: kws) (aCons ta aa) := (pk_cons ha hr).imp fun σ H Q h => by
  obtain ⟨m, g, τ, hR, hS, hP⟩ := h
  refine ⟨m, g, τ, hR, hS, (Post.bnd (R := RV) hP).imp ?_⟩
  rintro v H1 ⟨u, m1, g1, x1, R1, rv, P1⟩
  refine ⟨m1, g1, τ, R1, hS.ext x1.pre, (Post.bnd (R := RVs) P1).imp ?_⟩
  rintro vs H2 ⟨us, m2, g2, x2, R2, rv2, P2⟩
  exact P2.val R2 (.cons (rv.ext x2.pre) rv2)
theorem rd_N {f : List U → Op U} {Q : VK} (h : rdE C e W (eN f aa) σ H Q) : rdA C e W aa σ H fun vs H1 => rdN C f vs H1 Q := by
  obtain ⟨m, g, τ, hR, hS, hP⟩ := h
  refine ⟨m, g, τ, hR, hS, (Post.bnd (R := RVs) hP).imp ?_⟩
  rintro v H1 ⟨u, m1, g1, x1, R1, rv, P1⟩
  exact ⟨m1, g1, u, R1, rv, P1.lift⟩
theorem je_B {f : List U → Op U} {id : String} (hc : CallR X (.builtin id) (rdN C f)) (hg : Gl X x) (hm : X.mg x = none) (hv : bootBuiltins x = some (.builtin id)) (ha : JA C e W X (a :: es) aa) (hn : x ≠ "__name__") (hdb : (x == ("__debug__" : Str)) = false)
    (he : starEach (a :: es) X.env = (false, eval a X.env) :: starEach es X.env) (hpl : (backTo pos (starEach es X.env)).any (·.1) = false) : JE C e W X (.Call (.Name x p) (a :: es) [] pos) (eN f aa) := (pe_callB hc hg hm hv ha hn hdb he hpl).imp fun _ _ _ h => rd_N h
theorem je_Ty {f : List U → Op U} {id : String} (hc : CallR X (.type id) (rdN C f)) (hg : Gl X x) (hm : X.mg x = none) (hv : bootBuiltins x = some (.type id)) (ha : JA C e W X (a :: es) aa) (hn : x ≠ "__name__") (hdb : (x == ("__debug__" : Str)) = false)
    (he : starEach (a :: es) X.env = (false, eval a X.env) :: starEach es X.env) (hpl : (backTo pos (starEach es X.env)).any (·.1) = false) : JE C e W X (.Call (.Name x p) (a :: es) [] pos) (eN f aa) := (pe_callTy hc hg hm hv ha hn hdb he hpl).imp fun _ _ _ h => rd_N h
theorem je_lst (ha : JA C e W X es aa) : JE C e W X (.List es pos) (eN uLst aa) := (pe_lst ha).imp fun σ H Q h => by
  obtain ⟨m, g, τ, hR, hS, hP⟩ := h
  refine ⟨m, g, τ, hR, hS, (Post.bnd (R := RVs) hP).imp ?_⟩
  rintro v H1 ⟨u, m1, g1, x1, R1, rv, P1⟩
  have P2 := P1.lift
  unfold uLst at P2
  by_cases hz : u.length ≤ sizeLine
  · simp only [if_pos hz] at P2
    exact ⟨by rw [← Paired.len rv]; exact hz, P2.new R1 fun p hp => ro_lst rv⟩
  · simp only [if_neg hz] at P2; exact P2.elim
theorem je_tup {k : Nat} (ha : JA C e W X es aa) : JE C e W X (.Tuple es k pos) (eN uTup aa) := (pe_tup ha).imp fun σ H Q h => by
  obtain ⟨m, g, τ, hR, hS, hP⟩ := h
  refine ⟨m, g, τ, hR, hS, (Post.bnd (R := RVs) hP).imp ?_⟩
  rintro v H1 ⟨u, m1, g1, x1, R1, rv, P1⟩
  have P2 := P1.lift
  unfold uTup at P2
  by_cases hz : u.length ≤ sizeLine
  · simp only [if_pos hz] at P2
    exact ⟨by rw [← Paired.len rv]; exact hz, P2.new R1 fun p hp => ro_tup rv⟩
  · simp only [if_neg hz] at P2; exact P2.elim
def eDct0 : E := fun _ => lift fun g => push g (.dct [])
theorem je_dct0 : JE C e W X (.Dict [] [] pos) eDct0 := pe_dnewK.imp fun σ H Q h => by
  obtain ⟨m, g, τ, hR, hS, hP⟩ := h
  exact hP.lift.new hR fun p hp => ⟨[], upd_same, .nil⟩
theorem je_ix (ha : JE C e W X a ta) (hb : JE C e W X b tb) (hs : PlainIx b) : JE C e W X (.Subscript a b pos) (eBin uIdx ta tb) := (pe_ix idx_ok ha hb hs).imp fun _ _ _ h => rd_op2 h
theorem jo_none : JO C e W X none pNo := po_none.imp fun σ H Q h => by
  obtain ⟨m, g, τ, hR, hS, hP⟩ := h
  exact hP.val hR rfl
theorem jo_some (ha : JE C e W X a ta) : JO C e W X (some a) (pSo ta) := (po_some ha).imp fun σ H Q h => by
  obtain ⟨m, g, τ, hR, hS, hP⟩ := h
  refine ⟨m, g, τ, hR, hS, (Post.bnd (R := RV) hP).imp ?_⟩
  rintro v H1 ⟨u, m1, g1, x1, R1, rv, P1⟩
  have P2 := P1.lift
  cases u with
  | int i => exact ⟨i, rv, P2 m1 H1 _ (Ext.refl _ _) R1 rfl⟩
  | _ => exact P2.elim
theorem je_sl {lo hi : Option Expr} {tl th : PT'} {p2 : Pos} (ha : JE C e W X a ta) (hl : JO C e W X lo tl) (hh : JO C e W X hi th) : JE C e W X (.Subscript a (.Slice lo hi none p2) pos) (eSl uSl ta tl th) := (pe_slice sl_ok ha hl hh).imp fun σ H Q h => by
  refine (fun h => h) (show rdG C e W RV ta σ H _ from ?_)
  obtain ⟨m, g, τ, hR, hS, hP⟩ := h
  refine ⟨m, g, τ, hR, hS, (Post.bnd (R := RV) hP).imp ?_⟩
  rintro v H1 ⟨u, m1, g1, x1, R1, rv, P1⟩
  refine ⟨m1, g1, τ, R1, hS.ext x1.pre, (Post.bnd (R := REq (Option Int)) P1).imp ?_⟩
  rintro v2 H2 ⟨u2, m2, g2, x2, R2, rv2, P2⟩
  obtain rfl : u2 = v2 := rv2
  refine ⟨m2, g2, τ, R2, (hS.ext x1.pre).ext x2.pre, (Post.bnd (R := REq (Option Int)) P2).imp ?_⟩
  rintro v3 H3 ⟨u3, m3, g3, x3, R3, rv3, P3⟩
  obtain rfl : u3 = v3 := rv3
  exact ⟨m3, g3, u, R3, (rv.ext x2.pre).ext x3.pre, P3.lift⟩
/-! ### methods of lists -/
theorem me_rd {ty : U → G → Bool} {f : U → List U → Op U} {K : PySem.W.Frag} {T : String} (hty : ∀ m g H u v, Rel C m g H → RV m u v → ty u g = true → tyV K T v H) {Q : VK} (h : rdE C e W (eMe ty f ta aa) σ H Q) : tBM K T (rdM C f) (rdE C e W ta) (rdA C e W aa) σ H Q := by
  refine (fun h => h) (show rdG C e W RV ta σ H _ from ?_)
  obtain ⟨m, g, τ, hR, hS, hP⟩ := h
  refine ⟨m, g, τ, hR, hS, (Post.bnd (R := RV) hP).imp ?_⟩
  rintro v H1 ⟨u, m1, g1, x1, R1, rv, P1⟩
  by_cases ht : ty u g1 = true
  · simp only [if_pos ht] at P1
    refine ⟨hty _ _ _ _ _ R1 rv ht, m1, g1, τ, R1, hS.ext x1.pre, (Post.bnd (R := RVs) P1).imp ?_⟩
    rintro v2 H2 ⟨u2, m2, g2, x2, R2, rv2, P2⟩
    exact ⟨m2, g2, u, u2, R2, rv.ext x2.pre, rv2, P2.lift⟩
  · simp only [if_neg ht] at P1; exact P1.elim
theorem me_rd0 {ty : U → G → Bool} {f : U → List U → Op U} {K : PySem.W.Frag} {T : String} (hty : ∀ m g H u v, Rel C m g H → RV m u v → ty u g = true → tyV K T v H) {Q : VK} (h : rdE C e W (eMe ty f ta aNil) σ H Q) : tBM0 K T (rdM C f) (rdE C e W ta) σ H Q := by
  refine (fun h => h) (show rdG C e W RV ta σ H _ from ?_)
  obtain ⟨m, g, τ, hR, hS, hP⟩ := h
  refine ⟨m, g, τ, hR, hS, (Post.bnd (R := RV) hP).imp ?_⟩
  rintro v H1 ⟨u, m1, g1, x1, R1, rv, P1⟩
  by_cases ht : ty u g1 = true
  · simp only [if_pos ht, aNil, bnd] at P1
    exact ⟨hty _ _ _ _ _ R1 rv ht, m1, g1, u, [], R1, rv, .nil, P1.lift⟩
  · simp only [if_neg ht] at P1; exact P1.elim
theorem isLst_ty {K : PySem.W.Frag} (m : List Addr) (g : G) (H : Hp) (u : U) (v : V) (R : Rel C m g H) (r : RV m u v) (h : isLstU u g = true) : tyV K "list" v H := by
  cases u with
  | obj n =>
    obtain ⟨q, hq, rfl⟩ := r
    unfold isLstU at h
    simp only at h
    split at h
    · rename_i xs e1
      obtain ⟨vs, _, h1⟩ := R.lst hq e1
      exact .inl ⟨rfl, vs, SqL.of h1⟩
    · cases h
  | _ => simp [isLstU] at h
theorem append_ok : MtR X "list.append" (rdM C uAppend) := by
  intro pins s σ H x xs v us Q I rx rxs h
  obtain ⟨m, g, u, ws, R, ru, rw', P⟩ := h
  unfold uAppend at P
  match u, ru, ws, rw', P with
  | .obj n, ⟨q, hq, hv⟩, [y], .cons ry .nil, P =>
    subst hv
    simp only at P
    cases e1 : g[n]? with
    | none => simp only [e1] at P; exact P.elim
    | some o => cases o with
      | lst ys =>
        simp only [e1] at P
        by_cases hz : ys.length < sizeLine
        · simp only [if_pos hz] at P
          obtain ⟨vs, rv, h1⟩ := R.lst hq e1
          refine mt_append pins s σ H _ _ v us Q I rx rxs ⟨q, vs, _, rfl, rfl, h1, by rw [← Paired.len rv]; exact hz, ?_⟩
          obtain ⟨r', x'⟩ := R.put hq (ro_put (RVs.append rv (.cons ry .nil)))
          exact P _ _ _ x' r' rfl
        · simp only [if_neg hz] at P; exact P.elim
      | _ => simp only [e1] at P; exact P.elim
theorem extend_ok : MtR X "list.extend" (rdM C uExtend) := by
  intro pins s σ H x xs v us Q I rx rxs h
  obtain ⟨m, g, u, ws, R, ru, rw', P⟩ := h
  unfold uExtend at P
  match u, ru, ws, rw', P with
  | .obj n, ⟨q, hq, hv⟩, [.obj k], .cons r2 .nil, P =>
    subst hv
    obtain ⟨q2, hq2, rfl⟩ := r2
    simp only at P
    cases e1 : g[n]? with
    | none => simp only [e1] at P; exact P.elim
    | some o => cases o with
      | lst ys =>
        cases e2 : g[k]? with
        | none => simp only [e1, e2] at P; exact P.elim
        | some o2 => cases o2 with
          | lst zs =>
            simp only [e1, e2] at P
            by_cases hz : ys.length + zs.length ≤ sizeLine
            · simp only [if_pos hz] at P
              obtain ⟨vs, rv, h1⟩ := R.lst hq e1
              obtain ⟨vs2, rv2, h2⟩ := R.lst hq2 e2
              refine mt_extend pins s σ H _ _ v us Q I rx rxs ⟨q, q2, vs, vs2, rfl, rfl, h1, h2, by rw [← Paired.len rv, ← Paired.len rv2]; exact hz, ?_⟩
              obtain ⟨r', x'⟩ := R.put hq (ro_put (RVs.append rv rv2))
              exact P _ _ _ x' r' rfl
            · simp only [if_neg hz] at P; exact P.elim
          | _ => simp only [e1, e2] at P; exact P.elim
      | _ => simp only [e1] at P; exact P.elim
theorem insert_ok : MtR X "list.insert" (rdM C uInsert) := by
  intro pins s σ H x xs v us Q I rx rxs h
  obtain ⟨m, g, u, ws, R, ru, rw', P⟩ := h
  unfold uInsert at P
  match u, ru, ws, rw', P with
  | .obj n, ⟨q, hq, hv⟩, [.int i, y], .cons ri (.cons ry .nil), P =>
    subst hv
    obtain rfl := (show _ = V.int i from ri)
    simp only at P
    cases e1 : g[n]? with
    | none => simp only [e1] at P; exact P.elim
    | some o => cases o with
      | lst ys =>
        simp only [e1] at P
        by_cases hz : ys.length < sizeLine ∧ 0 ≤ i ∧ i < 2 ^ 63
        · simp only [if_pos hz] at P
          obtain ⟨vs, rv, h1⟩ := R.lst hq e1
          refine mt_insert pins s σ H _ _ v us Q I rx rxs ⟨q, vs, i, _, rfl, rfl, h1, by rw [← Paired.len rv]; exact hz.1, hz.2.1, hz.2.2, ?_⟩
          obtain ⟨r', x'⟩ := R.put hq (ro_put (RVs.append (RVs.append (Paired.take rv _) (.cons ry .nil)) (Paired.drop rv _)))
          exact P _ _ _ x' r' rfl
        · simp only [if_neg hz] at P; exact P.elim
      | _ => simp only [e1] at P; exact P.elim
theorem Paired.eraseIdx {α β : Type} {F : α → β → Prop} {xs : List α} {ys : List β} (h : Paired F xs ys) : ∀ k, Paired F (xs.eraseIdx k) (ys.eraseIdx k) := by
  induction h with
  | nil => intro k; simp; exact .nil
  | cons r t ih => intro k; cases k with
    | zero => exact t
    | succ k => exact .cons r (ih k)
theorem Paired.dropLast {α β : Type} {F : α → β → Prop} {xs : List α} {ys : List β} (h : Paired F xs ys) : Paired F xs.dropLast ys.dropLast := by
  rw [List.dropLast_eq_take, List.dropLast_eq_take, Paired.len h]; exact Paired.take h _
theorem popAt_ok : MtR X "list.pop" (rdM C uPopAt) := by
  intro pins s σ H x xs v us Q I rx rxs h
  obtain ⟨m, g, u, ws, R, ru, rw', P⟩ := h
  unfold uPopAt at P
  match u, ru, ws, rw', P with
  | .obj n, ⟨q, hq, hv⟩, [.int i], .cons ri .nil, P =>
    subst hv
    obtain rfl := (show _ = V.int i from ri)
    simp only at P
    cases e1 : g[n]? with
    | none => simp only [e1] at P; exact P.elim
    | some o => cases o with
      | lst ys =>
        simp only [e1] at P
        by_cases hz : -(2 ^ 63) ≤ i ∧ i < 2 ^ 63
        · simp only [if_pos hz] at P
          obtain ⟨vs, rv, h1⟩ := R.lst hq e1
          cases e2 : seqIndex? i ys.length with
          | none => simp only [e2] at P; exact P.elim
          | some k => cases e3 : ys[k]? with
            | none => simp only [e2, e3] at P; exact P.elim
            | some y =>
              simp only [e2, e3] at P
              obtain ⟨w, h2, h3⟩ := Paired.get rv e3
              refine mt_popAt pins s σ H _ _ v us Q I rx rxs ⟨q, vs, i, k, w, rfl, rfl, h1, hz.1, hz.2, by rw [← Paired.len rv]; exact e2, h2, ?_⟩
              obtain ⟨r', x'⟩ := R.put hq (ro_put (Paired.eraseIdx rv _))
              exact P _ _ _ x' r' h3
        · simp only [if_neg hz] at P; exact P.elim
      | _ => simp only [e1] at P; exact P.elim
theorem pop0_ok : MtR X "list.pop" (fun x xs H Q => xs = [] ∧ rdM C uPop0 x xs H Q) := by
  intro pins s σ H x xs v us Q I rx rxs h
  obtain ⟨rfl, m, g, u, ws, R, ru, rw', P⟩ := h
  unfold uPop0 at P
  match u, ru, P with
  | .obj n, ⟨q, hq, hv⟩, P =>
    subst hv
    simp only at P
    cases e1 : g[n]? with
    | none => simp only [e1] at P; exact P.elim
    | some o => cases o with
      | lst ys =>
        simp only [e1] at P
        obtain ⟨vs, rv, h1⟩ := R.lst hq e1
        cases e3 : ys[ys.length - 1]? with
        | none => simp only [e3] at P; exact P.elim
        | some y =>
          simp only [e3] at P
          obtain ⟨w, h2, h3⟩ := Paired.get rv e3
          refine mt_pop pins s σ H _ _ v us Q I rx rxs ⟨q, vs, w, rfl, rfl, h1, by rw [← Paired.len rv]; exact h2, ?_⟩
          obtain ⟨r', x'⟩ := R.put hq (ro_put (Paired.dropLast rv))
          exact P _ _ _ x' r' h3
      | _ => simp only [e1] at P; exact P.elim
/-! ### isinstance -/
theorem isi_kit : ∀ (t T : Ty), kitB t.name T.name = some (isiT t T) := by intro t T; cases t <;> cases T <;> decide +kernel
theorem ty_of {K : PySem.W.Frag} {m : List Addr} {g : G} {u : U} {v : V} {t : Ty} (R : Rel C m g H) (r : RV m u v) (h : tyU g u = some t) : TyX K H v (.type t.name) := by
  cases u with
  | non => simp only [tyU, Option.some.injEq] at h; subst h; obtain rfl := (show v = _ from r); exact .base .non
  | bl b => simp only [tyU, Option.some.injEq] at h; subst h; obtain rfl := (show v = _ from r); exact .base (.bl b)
  | int i => simp only [tyU, Option.some.injEq] at h; subst h; obtain rfl := (show v = _ from r); exact .base (.int i)
  | str z => simp only [tyU, Option.some.injEq] at h; subst h; obtain rfl := (show v = _ from r); exact .base (.str z)
  | obj n =>
    obtain ⟨q, hq, rfl⟩ := r
    simp only [tyU] at h
    cases e1 : g[n]? with
    | none => simp only [e1] at h; cases h
    | some o =>
      have ro := R.at_ n q o hq e1
      cases o with
      | lst xs => simp only [e1, Option.some.injEq] at h; subst h; obtain ⟨vs, h1, _⟩ := ro; exact .base (.lst h1)
      | frz xs => simp only [e1, Option.some.injEq] at h; subst h; obtain ⟨ob, vs, h1, _⟩ := ro; exact .base (.frz h1)
      | tup xs => simp only [e1, Option.some.injEq] at h; subst h; obtain ⟨vs, h1, _⟩ := ro; exact .base (.tup h1)
      | dct xs => simp only [e1, Option.some.injEq] at h; subst h; obtain ⟨vs, h1, _⟩ := ro; exact .base (.dK h1)
      | _ => simp only [e1] at h; cases h
theorem kit_any {K : PySem.W.Frag} (t : Ty) : ∀ ts : List Ty, PySem.W.kitAny K (.type t.name) (ts.map fun T => Value.type T.name) = some (ts.any (isiT t))
  | [] => kitAny_nil
  | T :: ts => by
    rw [List.any_cons]
    refine kitAny_cons (kit_ty (isi_kit t T)) (fun h => ?_) fun h => ?_
    · rw [h, Bool.false_or]; exact kit_any t ts
    · rw [h, Bool.true_or]
theorem Paired.cls : ∀ ts : List Ty, Paired ClsV (ts.map fun T => V.ty T.name) (ts.map fun T => Value.type T.name)
  | [] => .nil
  | T :: ts => .cons (.ty _) (Paired.cls ts)
/-- isinstance(a, T) -/
theorem je_isi {T : Ty} {y : Str} {py : Pos} (hg : Gl X "isinstance") (hm : X.mg "isinstance" = none) (hgT : Gl X y) (hmT : X.mg y = none) (hvT : bootBuiltins y = some (.type T.name)) (hnT : y ≠ "__name__") (hdT : (y == ("__debug__" : Str)) = false)
    (ha : JE C e W X a ta) (hs : starEach [a, .Name y py] X.env = (false, eval a X.env) :: starEach [.Name y py] X.env) : JE C e W X (.Call (.Name "isinstance" p) [a, .Name y py] [] pos) (eUn (uIsI [T]) ta) :=
  (pe_callB call_isi hg hm boot_isinstance (pa_cons ha (pa_cons (pe_bltn (v := .ty T.name) hgT hmT hvT rfl hnT hdT) pa_nil) hs) (he := hs)).imp fun σ H Q h => by
    obtain ⟨m, g, τ, hR, hS, hP⟩ := h
    refine ⟨m, g, τ, hR, hS, (Post.bnd (R := RV) hP).imp ?_⟩
    rintro v H1 ⟨u, m1, g1, x1, R1, rv, P1⟩
    have P2 := P1.lift
    unfold uIsI at P2
    cases q : tyU g1 u with
    | none => simp only [q] at P2; exact P2.elim
    | some t =>
      simp only [q, List.any_cons, List.any_nil, Bool.or_false] at P2
      exact ⟨v, .ty T.name, _, _, isiT t T, rfl, .ty _, ty_of R1 rv q, kit_ty (isi_kit t T), P2.val R1 rfl⟩
/-- isinstance(a, (T1, T2)) -/
theorem je_isi2 {T1 T2 : Ty} {y z : Str} {py pz pt : Pos} {k : Nat} (hg : Gl X "isinstance") (hm : X.mg "isinstance" = none) (hgT : Gl X y) (hmT : X.mg y = none) (hvT : bootBuiltins y = some (.type T1.name)) (hnT : y ≠ "__name__") (hdT : (y == ("__debug__" : Str)) = false)
    (hgZ : Gl X z) (hmZ : X.mg z = none) (hvZ : bootBuiltins z = some (.type T2.name)) (hnZ : z ≠ "__name__") (hdZ : (z == ("__debug__" : Str)) = false)
    (ha : JE C e W X a ta) (hs : starEach [a, .Tuple [.Name y py, .Name z pz] k pt] X.env = (false, eval a X.env) :: starEach [.Tuple [.Name y py, .Name z pz] k pt] X.env) : JE C e W X (.Call (.Name "isinstance" p) [a, .Tuple [.Name y py, .Name z pz] k pt] [] pos) (eUn (uIsI [T1, T2]) ta) :=
  (pe_callB call_isiT hg hm boot_isinstance (pa_cons ha (pa_cons (pe_tup (pa_cons (pe_bltn (v := .ty T1.name) hgT hmT hvT rfl hnT hdT) (pa_cons (pe_bltn (v := .ty T2.name) hgZ hmZ hvZ rfl hnZ hdZ) pa_nil))) pa_nil) hs) (he := hs)).imp fun σ H Q h => by
    obtain ⟨m, g, τ, hR, hS, hP⟩ := h
    refine ⟨m, g, τ, hR, hS, (Post.bnd (R := RV) hP).imp ?_⟩
    rintro v H1 ⟨u, m1, g1, x1, R1, rv, P1⟩
    have P2 := P1.lift
    unfold uIsI at P2
    cases q : tyU g1 u with
    | none => simp only [q] at P2; exact P2.elim
    | some t =>
      simp only [q] at P2
      refine ⟨by show 2 ≤ sizeLine; decide, fun tp htp => ?_⟩
      refine ⟨v, tp, [.ty T1.name, .ty T2.name], .type t.name, _, _, rfl, upd_same, Paired.cls [T1, T2], ?_, kit_any t [T1, T2], ?_⟩
      · exact ty_of (R1.keep (keep_upd htp)) rv q
      · exact P2 m1 _ _ (Ext.keep (keep_upd htp)) (R1.keep (keep_upd htp)) rfl
end
end PM

set_option Elab.async false
set_option linter.all false
set_option maxRecDepth 100000
set_option autoImplicit false
namespace PM
open PySem PySem.Spec PyProof.Rows L2

/-! ## what is walked -/
inductive Itm where | one (u : U) | two (x y : U)
  deriving DecidableEq
inductive Wk where
  | seq (n : Nat) (t : Bool) (xs : List U) | rng (lo : Int) (n : Nat) | rngC (lo c : Int) (n : Nat) | str (z : Str)
  | enm (n : Nat) (xs : List U) | zip (t : Bool) (n k : Nat) (xs ys : List U) | rev (n : Nat) (t : Bool) (xs : List U)
def Wk.len : Wk → Nat
  | .seq _ _ xs => xs.length | .rng _ n => n | .rngC _ _ n => n | .str z => z.cps.size | .enm _ xs => xs.length | .zip _ _ _ xs ys => min xs.length ys.length | .rev _ _ xs => xs.length
def Wk.ok (g : G) : Wk → Bool
  | .seq n t xs => decide (seqAt g n = some (t, xs))
  | .enm n xs => decide (seqAt g n = some (false, xs))
  | .rev n t xs => decide (seqAt g n = some (t, xs))
  | .zip t n k xs ys => decide (seqAt g n = some (t, xs)) && decide (seqAt g k = some (t, ys))
  | _ => true
def Wk.item (i : Nat) : Wk → Option Itm
  | .seq _ _ xs => (xs[i]?).map .one
  | .rng lo _ => some (.one (.int (lo + i)))
  | .rngC lo c _ => some (.one (.int (lo + i * c)))
  | .str z => (z.cps[i]?).map fun c => .one (.str ⟨#[c]⟩)
  | .enm _ xs => (xs[i]?).map fun x => .two (.int i) x
  | .zip _ _ _ xs ys => (xs[i]?).bind fun x => (ys[i]?).map fun y => .two x y
  | .rev _ _ xs => (xs[xs.length - 1 - i]?).map .one
abbrev I := Sl → M Wk
def iSeq (a : E) : I := fun τ g => bnd (a τ g) fun x g => match x with
  | .obj n => (match seqAt g n with | some (t, xs) => .ok (.seq n t xs) g | none => .stuck)
  | .str z => .ok (.str z) g
  | _ => .stuck
def iRg1 (a : A) : I := fun τ g => bnd (a τ g) fun xs g => match xs with
  | [.int j] => if -(2 ^ 62) ≤ j ∧ j < 2 ^ 62 then .ok (.rng 0 j.toNat) g else .stuck
  | _ => .stuck
def iRg2 (a : A) : I := fun τ g => bnd (a τ g) fun xs g => match xs with
  | [.int i, .int j] => if -(2 ^ 62) ≤ i ∧ i < 2 ^ 62 ∧ -(2 ^ 62) ≤ j ∧ j < 2 ^ 62 then .ok (.rng i (j - i).toNat) g else .stuck
  | _ => .stuck
def iRg3d (a : A) : I := fun τ g => bnd (a τ g) fun xs g => match xs with
  | [.int i, .int j, .int c] => if -(2 ^ 62) ≤ i ∧ i < 2 ^ 62 ∧ -(2 ^ 62) ≤ j ∧ j < 2 ^ 62 ∧ c = -1 then .ok (.rngC i (-1) (i - j).toNat) g else .stuck
  | _ => .stuck
def iEnm (a : A) : I := fun τ g => bnd (a τ g) fun xs g => match xs with
  | [.obj n] => (match seqAt g n with | some (false, xs) => .ok (.enm n xs) g | _ => .stuck)
  | _ => .stuck
def iZp (a : A) : I := fun τ g => bnd (a τ g) fun xs g => match xs with
  | [.obj n, .obj k] => (match seqAt g n, seqAt g k with | some (false, xs), some (false, ys) => .ok (.zip false n k xs ys) g | _, _ => .stuck)
  | _ => .stuck
def iRv (a : E) : I := fun τ g => bnd (a τ g) fun x g => match x with
  | .obj n => (match seqAt g n with | some (false, xs) => .ok (.rev n false xs) g | _ => .stuck)
  | _ => .stuck
/-- the hand layer's item -/
def RItm (m : List Addr) (itm : Itm) (H : Hp) (x : V) (H' : Hp) : Prop := match itm with
  | .one u => H' = H ∧ RV m u x
  | .two u w => ∃ T x1 x2, x = .ref T ∧ H T = none ∧ H' = upd H T (.tup [x1, x2]) ∧ RV m u x1 ∧ RV m w x2
theorem RItm.keep {m : List Addr} {itm : Itm} {H : Hp} {x : V} {H' : Hp} (r : RItm m itm H x H') : ∀ a o, H a = some o → H' a = some o := by
  cases itm with
  | one u => obtain ⟨rfl, _⟩ := r; exact fun _ _ h => h
  | two u w => obtain ⟨T, x1, x2, _, hT, rfl, _⟩ := r; exact keep_upd hT
def RI (C : Names) (m : List Addr) (it : Wk) (J : It) : Prop :=
  ∃ (Gp : Hp → Prop) (Y : Nat → Hp → V → Hp → Prop), Walk J it.len Gp Y ∧
    (∀ (m' : List Addr) (g' : G) (H' : Hp), (∀ (n : Nat) (a : Addr), m[n]? = some a → m'[n]? = some a) → Rel C m' g' H' → it.ok g' = true → Gp H') ∧
    ∀ i H x H', i < it.len → Y i H x H' → ∃ itm, it.item i = some itm ∧ RItm m itm H x H'
section
variable {C : Names} {e : Option (Nat × Addr × Nat × Addr)} {W : WX} {X : Cx} {tg a b c : Expr} {ta tb tc : E} {pos p : Pos} {es : List Expr} {aa ak : A} {σ : L2.St} {H : Hp} {x : Str} {m : List Addr} {g : G} {n k : Nat} {q r : Addr}
abbrev rdI (C : Names) (e : Option (Nat × Addr × Nat × Addr)) (W : WX) (ti : I) : TI := fun σ H R => rdG C e W (RI C) ti σ H R
abbrev JI (C : Names) (e : Option (Nat × Addr × Nat × Addr)) (W : WX) (X : Cx) (tg iter : Expr) (ti : I) : Prop := PI X tg iter (rdI C e W ti)
theorem seq_at {K : PySem.W.Frag} {t : Bool} {xs : List U} {vs : List V} {m' : List Addr} {g' : G} {H' : Hp} (hq : m[n]? = some q) (rv : RVs m xs vs) (hp : ∀ (n : Nat) (a : Addr), m[n]? = some a → m'[n]? = some a) (R' : Rel C m' g' H') (h : seqAt g' n = some (t, xs)) :
    (t = false → SqL K H' q vs) ∧ (t = true → SqT K H' q vs) := by
  obtain ⟨vs', rv', h1, h2⟩ := R'.seq (K := K) (hp _ _ hq) h
  have uniq : ∀ {xs : List U} {vs vs' : List V}, RVs m' xs vs' → RVs m' xs vs → vs' = vs := by
    intro xs
    clear h h1 h2 R' rv hq rv' vs' hp
    induction xs with
    | nil => intro vs vs' r2 r1; cases r1; cases r2; rfl
    | cons x xs ih =>
      intro vs vs' r2 r1
      cases r1 with
      | cons a1 t1 => cases r2 with
        | cons a2 t2 =>
          rw [ih t2 t1]
          congr 1
          cases x with
          | obj n => obtain ⟨_, e1, rfl⟩ := a1; obtain ⟨_, e2, rfl⟩ := a2; rw [e1] at e2; cases e2; rfl
          | _ => exact (show _ = _ from a2).trans (show _ = _ from a1).symm
  have := uniq rv' (rv.ext hp)
  subst this
  exact ⟨h1, h2⟩
theorem ri_list {xs : List U} {vs : List V} (K : PySem.W.Frag) (hq : m[n]? = some q) (rv : RVs m xs vs) : RI C m (.seq n false xs) (Itl K q) := by
  refine ⟨fun H => SqL K H q vs, YAt vs, (Paired.len rv ▸ walk_list : Walk (Itl K q) xs.length _ _), fun m' g' H' hp R' h => ?_, fun i H x H' hi y => ?_⟩
  · exact (seq_at hq rv hp R' (of_decide_eq_true h)).1 rfl
  · obtain ⟨rfl, hx⟩ := y
    have hi : i < xs.length := hi
    obtain ⟨v, h1, h2⟩ := Paired.get rv (List.getElem?_eq_getElem hi)
    rw [h1] at hx; cases hx
    exact ⟨.one xs[i], by show (xs[i]?).map Itm.one = _; rw [List.getElem?_eq_getElem hi]; rfl, rfl, h2⟩
theorem ri_tup {xs : List U} {vs : List V} (K : PySem.W.Frag) (hq : m[n]? = some q) (rv : RVs m xs vs) : RI C m (.seq n true xs) (Itt K q) := by
  refine ⟨fun H => SqT K H q vs, YAt vs, (Paired.len rv ▸ walk_tup : Walk (Itt K q) xs.length _ _), fun m' g' H' hp R' h => ?_, fun i H x H' hi y => ?_⟩
  · exact (seq_at hq rv hp R' (of_decide_eq_true h)).2 rfl
  · obtain ⟨rfl, hx⟩ := y
    have hi : i < xs.length := hi
    obtain ⟨v, h1, h2⟩ := Paired.get rv (List.getElem?_eq_getElem hi)
    rw [h1] at hx; cases hx
    exact ⟨.one xs[i], by show (xs[i]?).map Itm.one = _; rw [List.getElem?_eq_getElem hi]; rfl, rfl, h2⟩
theorem ri_rng {lo : Int} : RI C m (.rng lo n) (Itr lo n) :=
  ⟨_, _, walk_range, fun _ _ _ _ _ _ => trivial, fun i H x H' _ y => ⟨_, rfl, y.1, y.2⟩⟩
theorem ri_rngC {lo c : Int} : RI C m (.rngC lo c n) (Itc lo c n) :=
  ⟨_, _, walk_rangeC, fun _ _ _ _ _ _ => trivial, fun i H x H' _ y => ⟨_, rfl, y.1, y.2⟩⟩
theorem ri_str {z : Str} : RI C m (.str z) (Its z) :=
  ⟨_, _, walk_str, fun _ _ _ _ _ _ => trivial, fun i H x H' hi ⟨h, c, hc, hv⟩ => ⟨.one (.str ⟨#[c]⟩), by show (z.cps[i]?).map _ = _; rw [hc]; rfl, h, hv⟩⟩
theorem ri_enm {xs : List U} {vs : List V} (K : PySem.W.Frag) (hq : m[n]? = some q) (rv : RVs m xs vs) : RI C m (.enm n xs) (Ite K q) := by
  refine ⟨fun H => SqL K H q vs, _, (Paired.len rv ▸ walk_enum (xs := vs) : Walk (Ite K q) xs.length _ _), fun m' g' H' hp R' h => ?_, fun i H x H' hi y => ?_⟩
  · exact (seq_at hq rv hp R' (of_decide_eq_true h)).1 rfl
  · obtain ⟨T, x1, x2, rfl, hT, rfl, h1, h2⟩ := y
    have hi : i < xs.length := hi
    obtain ⟨v, h3, h4⟩ := Paired.get rv (List.getElem?_eq_getElem hi)
    change vs[i]? = _ at h2
    change some _ = _ at h1
    rw [h3] at h2; cases h2; cases h1
    exact ⟨.two (.int i) xs[i], by show (xs[i]?).map _ = _; rw [List.getElem?_eq_getElem hi]; rfl, T, _, _, rfl, hT, rfl, rfl, h4⟩
theorem ri_zip {xs ys : List U} {vs ws : List V} (K : PySem.W.Frag) (hq : m[n]? = some q) (hr : m[k]? = some r) (rv : RVs m xs vs) (rw' : RVs m ys ws) : RI C m (.zip false n k xs ys) (Itz K q r) := by
  refine ⟨fun H => SqL K H q vs ∧ SqL K H r ws, _, walk_zip (xs := vs) (ys := ws) (n := min xs.length ys.length) (by rw [Paired.len rv, Paired.len rw']), fun m' g' H' hp R' h => ?_, fun i H x H' hi y => ?_⟩
  · simp only [Wk.ok, Bool.and_eq_true, decide_eq_true_eq] at h
    exact ⟨(seq_at hq rv hp R' h.1).1 rfl, (seq_at hr rw' hp R' h.2).1 rfl⟩
  · obtain ⟨T, x1, x2, rfl, hT, rfl, h1, h2⟩ := y
    have hi : i < min xs.length ys.length := hi
    have i1 : i < xs.length := by omega
    have i2 : i < ys.length := by omega
    obtain ⟨v, h3, h4⟩ := Paired.get rv (List.getElem?_eq_getElem i1)
    obtain ⟨v', h3', h4'⟩ := Paired.get rw' (List.getElem?_eq_getElem i2)
    change vs[i]? = _ at h1
    change ws[i]? = _ at h2
    rw [h3] at h1; cases h1
    rw [h3'] at h2; cases h2
    exact ⟨.two xs[i] ys[i], by show (xs[i]?).bind _ = _; rw [List.getElem?_eq_getElem i1, List.getElem?_eq_getElem i2]; rfl, T, _, _, rfl, hT, rfl, h4, h4'⟩
theorem ri_rev {xs : List U} {vs : List V} (K : PySem.W.Frag) (hq : m[n]? = some q) (rv : RVs m xs vs) : RI C m (.rev n false xs) (Itv K q vs.length) := by
  refine ⟨fun H => SqL K H q vs, fun i H x H' => H' = H ∧ vs[vs.length - 1 - i]? = some x, (by show Walk _ xs.length _ _; rw [Paired.len rv]; exact walk_rev), fun m' g' H' hp R' h => ?_, fun i H x H' hi y => ?_⟩
  · exact (seq_at hq rv hp R' (of_decide_eq_true h)).1 rfl
  · obtain ⟨rfl, hx⟩ := y
    have hi : i < xs.length := hi
    have i1 : xs.length - 1 - i < xs.length := by omega
    obtain ⟨v, h1, h2⟩ := Paired.get rv (List.getElem?_eq_getElem i1)
    rw [← Paired.len rv, h1] at hx; cases hx
    exact ⟨.one xs[xs.length - 1 - i], by show (xs[xs.length - 1 - i]?).map Itm.one = _; rw [List.getElem?_eq_getElem i1]; rfl, rfl, h2⟩
/-! ### the rules -/
theorem ji_seq (ha : JE C e W X a ta) : JI C e W X tg a (iSeq ta) := by
  refine ⟨fun pins s σ H R I h => ?_⟩
  have h2 : rdE C e W ta σ H fun v H1 => (∃ q, v = .ref q ∧ (∃ vs, SqL X.K H1 q vs) ∧ R (Itl X.K q) H1) ∨ (∃ q, v = .ref q ∧ (∃ vs, SqT X.K H1 q vs) ∧ R (Itt X.K q) H1) ∨ ∃ z, v = .str z ∧ R (Its z) H1 := by
    obtain ⟨m, g, τ, hR, hS, hP⟩ := h
    refine ⟨m, g, τ, hR, hS, (Post.bnd (R := RV) hP).imp ?_⟩
    rintro v H1 ⟨u, m1, g1, x1, R1, rv, P1⟩
    cases u with
    | obj n =>
      obtain ⟨q, hq, rfl⟩ := rv
      simp only at P1
      cases e1 : seqAt g1 n with
      | none => simp only [e1] at P1; exact P1.elim
      | some t =>
        obtain ⟨t, xs⟩ := t
        simp only [e1] at P1
        obtain ⟨vs, rv', hl, ht⟩ := R1.seq (K := X.K) hq e1
        cases t with
        | false => exact .inl ⟨q, rfl, ⟨vs, hl rfl⟩, P1.val R1 (ri_list X.K hq rv')⟩
        | true => exact .inr (.inl ⟨q, rfl, ⟨vs, ht rfl⟩, P1.val R1 (ri_tup X.K hq rv')⟩)
    | str z => obtain rfl := (show v = V.str z from rv); exact .inr (.inr ⟨z, rfl, P1.val R1 ri_str⟩)
    | _ => exact P1.elim
  refine thn (ha.run pins s σ H _ I h2) fun v s1 ⟨y, H1, I1, r1, q1⟩ => ?_
  have fr : ∀ b ∈ [s1.heap.objs.size], FpOk X pins H1 b := fun b hb => by
    have e : b = s1.heap.objs.size := by simpa using hb
    subst e
    exact I1.fpOk (Nat.le_refl _) (I1.hok.fresh (Nat.le_refl _))
  rcases q1 with ⟨q, rfl, ⟨vs, hl⟩, hR⟩ | ⟨q, rfl, ⟨vs, hl⟩, hR⟩ | ⟨z, rfl, hR⟩
  · cases r1
    obtain ⟨its, rv, pl, hz⟩ := I1.list hl
    exact wpAny_pyIter_list pl.isList ⟨s1.heap.objs.size, [s1.heap.objs.size], _, _, H1, rfl, I1.kept (t' := s1.toks) fun b o e => Heap.get?_push_of_some _ e, turn_list q _, ⟨_, Heap.get?_push_size _ rfl, rfl, rfl⟩, fr, hR⟩
  · cases r1
    obtain ⟨its, rv, pl, hz⟩ := I1.tuple hl
    exact wpAny_pyIter_tuple (show s1.heap.IsTuple q its.toArray from pl) ⟨s1.heap.objs.size, [s1.heap.objs.size], _, _, H1, rfl, I1.kept (t' := s1.toks) fun b o e => Heap.get?_push_of_some _ e, turn_tuple q _, ⟨_, Heap.get?_push_size _ rfl, rfl, rfl⟩, fr, hR⟩
  · obtain ⟨t, rfl⟩ := r1
    cases hz : z.cps.all (· < 128)
    · exact wpAny_pyIter_wide hz (pi_one (tk := s1.toks) I1 _ (turn_str _ z t "str_iterator" (.inr rfl)) ⟨_, Heap.get?_push_size _ rfl, rfl, rfl⟩ hR)
    · exact wpAny_pyIter_ascii hz (pi_one (tk := s1.toks) I1 _ (turn_str _ z t "str_ascii_iterator" (.inl rfl)) ⟨_, Heap.get?_push_size _ rfl, rfl, rfl⟩ hR)
theorem _root_.L2.PI.imp {X : Cx} {tg a : Expr} {t t' : TI} (h : PI X tg a t) (i : ∀ σ H Q, t' σ H Q → t σ H Q) : PI X tg a t' := ⟨fun pins s σ H Q I q => h.run pins s σ H Q I (i σ H Q q)⟩
theorem ji_rg1 (hg : Gl X "range") (hm : X.mg "range" = none) (ha : JA C e W X [a] aa) (hs : starEach [a] X.env = [(false, eval a X.env)]) : JI C e W X tg (.Call (.Name "range" p) [a] [] pos) (iRg1 aa) := (pi_range1 hg hm ha hs).imp fun σ H R h => by
  obtain ⟨m, g, τ, hR, hS, hP⟩ := h
  refine ⟨m, g, τ, hR, hS, (Post.bnd (R := RVs) hP).imp ?_⟩
  rintro v H1 ⟨u, m1, g1, x1, R1, rv, P1⟩
  match u, rv, P1 with
  | [.int j], .cons r1 .nil, P1 =>
    obtain rfl := (show _ = V.int j from r1)
    by_cases hz : -(2 ^ 62) ≤ j ∧ j < 2 ^ 62
    · simp only [if_pos hz] at P1; exact ⟨j, rfl, hz.1, hz.2, P1.val R1 ri_rng⟩
    · simp only [if_neg hz] at P1; exact P1.elim
theorem ji_rg2 (hg : Gl X "range") (hm : X.mg "range" = none) (ha : JA C e W X [a, b] aa) (hs : starEach [a, b] X.env = [(false, eval a X.env), (false, eval b X.env)]) (hs2 : starEach [b] X.env = [(false, eval b X.env)]) : JI C e W X tg (.Call (.Name "range" p) [a, b] [] pos) (iRg2 aa) := (pi_range2 hg hm ha hs hs2).imp fun σ H R h => by
  obtain ⟨m, g, τ, hR, hS, hP⟩ := h
  refine ⟨m, g, τ, hR, hS, (Post.bnd (R := RVs) hP).imp ?_⟩
  rintro v H1 ⟨u, m1, g1, x1, R1, rv, P1⟩
  match u, rv, P1 with
  | [.int i, .int j], .cons r1 (.cons r2 .nil), P1 =>
    obtain rfl := (show _ = V.int i from r1)
    obtain rfl := (show _ = V.int j from r2)
    by_cases hz : -(2 ^ 62) ≤ i ∧ i < 2 ^ 62 ∧ -(2 ^ 62) ≤ j ∧ j < 2 ^ 62
    · simp only [if_pos hz] at P1; exact ⟨i, j, rfl, hz, P1.val R1 ri_rng⟩
    · simp only [if_neg hz] at P1; exact P1.elim
theorem ji_enm {tpos : Pos} {elts : List Expr} {kk : Nat} (hg : Gl X "enumerate") (hm : X.mg "enumerate" = none) (ha : JA C e W X [a] aa) (hs : starEach [a] X.env = [(false, eval a X.env)]) : JI C e W X (.Tuple elts kk tpos) (.Call (.Name "enumerate" p) [a] [] pos) (iEnm aa) := (pi_enum hg hm ha hs).imp fun σ H R h => by
  obtain ⟨m, g, τ, hR, hS, hP⟩ := h
  refine ⟨m, g, τ, hR, hS, (Post.bnd (R := RVs) hP).imp ?_⟩
  rintro v H1 ⟨u, m1, g1, x1, R1, rv, P1⟩
  match u, rv, P1 with
  | [.obj n], .cons r1 .nil, P1 =>
    obtain ⟨q, hq, rfl⟩ := r1
    simp only at P1
    cases e1 : seqAt g1 n with
    | none => simp only [e1] at P1; exact P1.elim
    | some t =>
      obtain ⟨t, xs⟩ := t
      obtain ⟨vs, rv', hl, ht⟩ := R1.seq (K := X.K) hq e1
      cases t with
      | false => simp only [e1] at P1; exact ⟨q, vs, rfl, hl rfl, P1.val R1 (ri_enm X.K hq rv')⟩
      | true => simp only [e1] at P1; exact P1.elim
theorem ji_rev (hg : Gl X "reversed") (hm : X.mg "reversed" = none) (ha : JE C e W X a ta) (hs : starEach [a] X.env = (false, eval a X.env) :: starEach [] X.env) : JI C e W X tg (.Call (.Name "reversed" p) [a] [] pos) (iRv ta) := (RT.pi_revA hg hm ha hs).imp fun σ H R h => by
  obtain ⟨m, g, τ, hR, hS, hP⟩ := h
  refine ⟨m, g, τ, hR, hS, (Post.bnd (R := RV) hP).imp ?_⟩
  rintro v H1 ⟨u, m1, g1, x1, R1, rv, P1⟩
  cases u with
  | obj n =>
    obtain ⟨q, hq, rfl⟩ := rv
    simp only at P1
    cases e1 : seqAt g1 n with
    | none => simp only [e1] at P1; exact P1.elim
    | some t =>
      obtain ⟨t, xs⟩ := t
      obtain ⟨vs, rv', hl, ht⟩ := R1.seq (K := X.K) hq e1
      cases t with
      | false => simp only [e1] at P1; exact ⟨q, vs, rfl, .inl ⟨hl rfl, P1.val R1 (ri_rev X.K hq rv')⟩⟩
      | true => simp only [e1] at P1; exact P1.elim
  | _ => exact P1.elim
end
end PM

set_option Elab.async false
set_option linter.all false
set_option maxRecDepth 100000
set_option autoImplicit false
namespace PM
open PySem PySem.Spec PyProof.Rows L2

/-! ## targets -/
abbrev Tg := Itm → Sl → G → Option Sl
abbrev Tgs := List U → Sl → G → Option Sl
def gN (i : Nat) : Tg := fun itm τ _ => match itm with | .one u => some (τ.set i (some u)) | _ => none
def gT (n : Nat) (ts : Tgs) : Tg := fun itm τ g => match itm with
  | .two x y => if n = 2 then ts [x, y] τ g else none
  | .one (.obj k) => (match g[k]? with | some (.tup xs) => if xs.length = n then ts xs τ g else none | _ => none)
  | _ => none
def gsN : Tgs := fun us τ _ => match us with | [] => some τ | _ => none
def gsC (t : Tg) (ts : Tgs) : Tgs := fun us τ g => match us with | x :: r => (t (.one x) τ g).bind fun τ' => ts r τ' g | [] => none
/-! ## statements -/
inductive RS where
  | nx (τ : Sl) (g : G) | rt (u : U) (g : G) | bk (τ : Sl) (g : G) | ct (τ : Sl) (g : G) | ex (c : Nat) (d : Option Nat) (τ : Sl) (g : G) | stuck
abbrev S := Sl → G → RS
def bndS {α : Type} (r : Res α) (τ : Sl) (f : α → G → RS) : RS := match r with | .ok a g => f a g | .exc c d g => .ex c d τ g | .stuck => .stuck
def sNx : S := fun τ g => .nx τ g
def sBk : S := fun τ g => .bk τ g
def sCt : S := fun τ g => .ct τ g
def sSeq (a b : S) : S := fun τ g => match a τ g with | .nx τ' g' => b τ' g' | r => r
def sEx (e : E) : S := fun τ g => bndS (e τ g) τ fun _ g' => .nx τ g'
def sRt (e : E) : S := fun τ g => bndS (e τ g) τ fun u g' => .rt u g'
def sRtN : S := fun _ g => .rt .non g
def sIf (t : T) (a b : S) : S := fun τ g => bndS (t τ g) τ fun c g' => if c = true then a τ g' else b τ g'
def sAs (e : E) (t : Tg) : S := fun τ g => bndS (e τ g) τ fun u g' => match t (.one u) τ g' with | some τ' => .nx τ' g' | none => .stuck
def sPar (i j : Nat) (a : A) : S := fun τ g => bndS (a τ g) τ fun us g' => match us with | [x, y] => .nx ((τ.set i (some x)).set j (some y)) g' | _ => .stuck
def sPar3 (i j l : Nat) (a : A) : S := fun τ g => bndS (a τ g) τ fun us g' => match us with | [x, y, z] => .nx (((τ.set i (some x)).set j (some y)).set l (some z)) g' | _ => .stuck
def sSub (e o i : E) : S := fun τ g => bndS (e τ g) τ fun v g => bndS (o τ g) τ fun x g => bndS (i τ g) τ fun y g => match uSet x y v g with | some (_, g') => .nx τ g' | none => .stuck
def forGo (it : Wk) (t : Tg) (body : S) : Nat → Nat → Sl → G → RS
  | 0, _, τ, g => if it.ok g = true then .nx τ g else .stuck
  | n + 1, i, τ, g => if it.ok g = true then (match it.item i with
    | some itm => (match t itm τ g with
      | some τ1 => (match body τ1 g with
        | .nx τ2 g2 => forGo it t body n (i + 1) τ2 g2
        | .ct τ2 g2 => forGo it t body n (i + 1) τ2 g2
        | .bk τ2 g2 => .nx τ2 g2
        | r => r)
      | none => .stuck)
    | none => .stuck) else .stuck
def sFor (it : I) (t : Tg) (body : S) : S := fun τ g => bndS (it τ g) τ fun w g' => forGo w t body w.len 0 τ g'
def whGo (t : T) (body : S) : Nat → Sl → G → RS
  | 0, _, _ => .stuck
  | n + 1, τ, g => bndS (t τ g) τ fun c g' => if c = true then (match body τ g' with
      | .nx τ2 g2 => whGo t body n τ2 g2
      | .ct τ2 g2 => whGo t body n τ2 g2
      | .bk τ2 g2 => .nx τ2 g2
      | r => r) else .nx τ g'
def sWh (fuel : Nat) (t : T) (body : S) : S := whGo t body fuel
/-! comprehensions -/
def wipeU (τ : Sl) : List Nat → Sl
  | [] => τ
  | v :: vs => (wipeU τ vs).set v none
def lcGo (it : Wk) (t : Tg) (tt : T) (te : E) (τ : Sl) : Nat → Nat → List U → M (List U)
  | 0, _, acc, g => if it.ok g = true then .ok acc g else .stuck
  | n + 1, i, acc, g => if it.ok g = true then (match it.item i with
    | some itm => (match t itm τ g with
      | some τ1 => (match tt τ1 g with
        | .ok true g1 => (match te τ1 g1 with
          | .ok u g2 => if acc.length < sizeLine then lcGo it t tt te τ n (i + 1) (acc ++ [u]) g2 else .stuck
          | _ => .stuck)
        | .ok false g1 => lcGo it t tt te τ n (i + 1) acc g1
        | _ => .stuck)
      | none => .stuck)
    | none => .stuck) else .stuck
def tYs : T := fun _ g => .ok true g
def eLc (it : I) (t : Tg) (tt : T) (te : E) (vs : List Nat) : E := fun τ g => bnd (it τ g) fun w g => bnd (lcGo w t tt te (wipeU τ vs) w.len 0 [] g) fun acc => lift fun g => push g (.lst acc)

/-! ## readings -/
def Keep (ix : List Nat) (σ σ' : L2.St) : Prop := σ'.length = σ.length ∧ ∀ j : Nat, j ∉ ix → σ'[j]? = σ[j]?
def RD (m : List Addr) (d : Option Nat) (a : Option Addr) : Prop := match d with | none => a = none | some n => ∃ b, m[n]? = some b ∧ a = some b
def PostS (C : Names) (e : Option (Nat × Addr × Nat × Addr)) (W : WX) (m : List Addr) (H : Hp) (D : Ends) (r : RS) : Prop := match r with
  | .nx τ g => ∀ m' H' σ', Ext m H m' H' → Rel C m' g H' → RSt m' e τ σ' → D.nx σ' H'
  | .rt u g => ∀ m' H' v, Ext m H m' H' → Rel C m' g H' → RV m' u v → D.rt v H'
  | .bk τ g => ∀ m' H' σ', Ext m H m' H' → Rel C m' g H' → RSt m' e τ σ' → D.bk σ' H'
  | .ct τ g => ∀ m' H' σ', Ext m H m' H' → Rel C m' g H' → RSt m' e τ σ' → D.ct σ' H'
  | .ex c d τ g => ∀ m' H' σ' a, Ext m H m' H' → Rel C m' g H' → RSt m' e τ σ' → RD m' d a → W (.ref (C.cad c)) a σ' H'
  | .stuck => False
def rdS (C : Names) (e : Option (Nat × Addr × Nat × Addr)) (W : WX) (s : S) : TS := fun D σ H => ∃ m g τ, Rel C m g H ∧ RSt m e τ σ ∧ PostS C e W m H D (s τ g)
def rdTg (C : Names) (e : Option (Nat × Addr × Nat × Addr)) (ix : List Nat) (t : Tg) : TG := fun v σ H Q => ∃ m g τ itm H0, Rel C m g H0 ∧ RSt m e τ σ ∧ RItm m itm H0 v H ∧ (match t itm τ g with | some τ' => ∀ σ', RSt m e τ' σ' → Keep ix σ σ' → Q σ' H | none => False)
def rdTgs (C : Names) (e : Option (Nat × Addr × Nat × Addr)) (ix : List Nat) (t : Tgs) : TGs := fun vs σ H Q => ∃ m g τ us, Rel C m g H ∧ RSt m e τ σ ∧ RVs m us vs ∧ (match t us τ g with | some τ' => ∀ σ', RSt m e τ' σ' → Keep ix σ σ' → Q σ' H | none => False)
abbrev JS (C : Names) (e : Option (Nat × Addr × Nat × Addr)) (W : WX) (X : Cx) (st : Stmt) (s : S) : Prop := PS X st (rdS C e W s)
abbrev JB (C : Names) (e : Option (Nat × Addr × Nat × Addr)) (W : WX) (X : Cx) (st : List Stmt) (s : S) : Prop := PSs X st (rdS C e W s)
abbrev JG (C : Names) (e : Option (Nat × Addr × Nat × Addr)) (X : Cx) (ix : List Nat) (tg : Expr) (t : Tg) : Prop := PG X tg (rdTg C e ix t)
abbrev JGs (C : Names) (e : Option (Nat × Addr × Nat × Addr)) (X : Cx) (ix : List Nat) (tg : List Expr) (t : Tgs) : Prop := PGs X tg (rdTgs C e ix t)
theorem _root_.L2.PS.imp {X : Cx} {a : Stmt} {t t' : TS} (h : PS X a t) (i : ∀ D σ H, t' D σ H → t D σ H) : PS X a t' := ⟨fun pins s σ H D I q => h.run pins s σ H D I (i D σ H q)⟩
theorem _root_.L2.PSs.imp {X : Cx} {a : List Stmt} {t t' : TS} (h : PSs X a t) (i : ∀ D σ H, t' D σ H → t D σ H) : PSs X a t' := ⟨fun pins s σ H D I q => h.run pins s σ H D I (i D σ H q)⟩
theorem _root_.L2.PG.imp {X : Cx} {a : Expr} {t t' : TG} (h : PG X a t) (i : ∀ v σ H Q, t' v σ H Q → t v σ H Q) : PG X a t' := ⟨fun pins s σ H v u Q I r q => h.run pins s σ H v u Q I r (i v σ H Q q)⟩
theorem _root_.L2.PGs.imp {X : Cx} {a : List Expr} {t t' : TGs} (h : PGs X a t) (i : ∀ v σ H Q, t' v σ H Q → t v σ H Q) : PGs X a t' := ⟨fun pins s σ H v u Q I r q => h.run pins s σ H v u Q I r (i v σ H Q q)⟩
section
variable {C : Names} {e : Option (Nat × Addr × Nat × Addr)} {W : WX} {X : Cx} {tg a b c : Expr} {ta tb tc : E} {pos p : Pos} {es : List Expr} {aa ak : A} {σ : L2.St} {H : Hp} {x : Str} {m : List Addr} {g : G} {n k : Nat} {ix ix' : List Nat}
theorem Keep.refl (ix : List Nat) (σ : L2.St) : Keep ix σ σ := ⟨rfl, fun _ _ => rfl⟩
theorem Keep.trans {σ σ1 σ2 : L2.St} (a : Keep ix σ σ1) (b : Keep ix' σ1 σ2) : Keep (ix ++ ix') σ σ2 := ⟨b.1.trans a.1, fun j h => by
  simp only [List.mem_append, not_or] at h
  exact (b.2 j h.2).trans (a.2 j h.1)⟩
theorem RSt.set {τ : Sl} {u : U} {v : V} {i : Nat} (h : RSt m e τ σ) (r : RV m u v) (he : ∀ j q, e = some (j, q) → j ≠ i) : RSt m e (τ.set i (some u)) (σ.set i (some v)) := by
  refine ⟨by simp [h.1], fun j w q => ?_, fun j q h1 => ?_⟩
  · by_cases hj : j = i
    · subst hj
      by_cases hl : j < τ.length
      · rw [List.getElem?_set_self hl] at q
        have hl' : j < σ.length := by rw [← h.1]; exact hl
        cases q
        exact ⟨v, List.getElem?_set_self hl', r⟩
      · rw [List.getElem?_eq_none (by simpa using hl)] at q; cases q
    · rw [List.getElem?_set_ne (Ne.symm hj)] at q
      rw [List.getElem?_set_ne (Ne.symm hj)]
      exact h.2.1 j w q
  · rw [List.getElem?_set_ne (Ne.symm (he j q h1))]
    exact h.2.2 j q h1
theorem Keep.set {i : Nat} {v : V} : Keep [i] σ (σ.set i (some v)) := ⟨by simp, fun j h => by
  rw [List.getElem?_set_ne]; intro z; exact h (by simp [z])⟩
theorem jg_name {i : Nat} (hN : X.N.Nodup) (hi : X.N[i]? = some x) (hx : Loc X.env.scope x) (hf : X.fn x = true ∨ X.env.scope.names.lookup x = some .local) (he : ∀ j q, e = some (j, q) → j ≠ i) : JG C e X [i] (.Name x pos) (gN i) := (pg_name hN hi hx hf).imp fun v σ H Q h => by
  obtain ⟨m, g, τ, itm, H0, hR, hS, hI, hP⟩ := h
  cases itm with
  | one u => exact hP _ (hS.set hI.2 he) Keep.set
  | two u w => exact hP.elim
theorem jgs_nil : JGs C e X [] [] gsN := pgs_nil.imp fun vs σ H Q h => by
  obtain ⟨m, g, τ, us, hR, hS, hI, hP⟩ := h
  cases hI with
  | nil => exact ⟨rfl, hP _ hS (Keep.refl _ _)⟩
  | cons _ _ => exact hP.elim
theorem jgs_cons {t : Tg} {ts : Tgs} (h1 : JG C e X ix a t) (h2 : JGs C e X ix' es ts) (hs : (assignEach (a :: es) X.env).map (·.2) = assign a X.env :: (assignEach es X.env).map (·.2)) : JGs C e X (ix ++ ix') (a :: es) (gsC t ts) := (pgs_cons h1 h2 hs).imp fun vs σ H Q h => by
  obtain ⟨m, g, τ, us, hR, hS, hI, hP⟩ := h
  cases hI with
  | nil => exact hP.elim
  | @cons u v r rs ru rr =>
    refine ⟨v, rs, rfl, m, g, τ, .one u, H, hR, hS, ⟨rfl, ru⟩, ?_⟩
    simp only [gsC] at hP
    cases q : t (.one u) τ g with
    | none => simp only [q] at hP; first | done | exact hP.elim
    | some τ1 =>
      simp only [q, Option.bind_some] at hP
      intro σ1 hS1 hK1
      refine ⟨m, g, τ1, r, hR, hS1, rr, ?_⟩
      cases q2 : ts r τ1 g with
      | none => simp only [q2] at hP; first | done | exact hP.elim
      | some τ2 => simp only [q2] at hP; exact fun σ2 hS2 hK2 => hP _ hS2 (hK1.trans hK2)
theorem jg_tup {ts : Tgs} (hc : X.calm = true) (h : JGs C e X ix es ts) (hn : (assignEach es X.env).length = n) (hst : (assignEach es X.env).findIdx? (·.1) = none) : JG C e X ix (.Tuple es k pos) (gT n ts) := (pg_tup hc h hn hst).imp fun v σ H Q h => by
  obtain ⟨m, g, τ, itm, H0, hR, hS, hI, hP⟩ := h
  have kp := hI.keep
  have R' := hR.keep kp
  cases itm with
  | one u =>
    cases u with
    | obj j =>
      obtain ⟨rfl, q, hq, rfl⟩ := hI
      simp only [gT] at hP
      cases e1 : g[j]? with
      | none => simp only [e1] at hP; first | done | exact hP.elim
      | some o => cases o with
        | tup xs =>
          simp only [e1] at hP
          by_cases hz : xs.length = n
          · simp only [if_pos hz] at hP
            obtain ⟨vs, rv, h1⟩ := hR.tup hq e1
            exact ⟨q, vs, rfl, SqT.of h1, by rw [← Paired.len rv]; exact hz, m, g, τ, xs, hR, hS, rv, hP⟩
          · simp only [if_neg hz] at hP; first | done | exact hP.elim
        | _ => simp only [e1] at hP; first | done | exact hP.elim
    | _ => exact hP.elim
  | two u w =>
    obtain ⟨T, x1, x2, rfl, hT, rfl, r1, r2⟩ := hI
    simp only [gT] at hP
    by_cases hz : n = 2
    · subst hz
      simp only [if_true] at hP
      exact ⟨T, [x1, x2], rfl, SqT.of upd_same, rfl, m, g, τ, [u, w], R', hS, .cons r1 (.cons r2 .nil), hP⟩
    · simp only [if_neg hz] at hP; first | done | exact hP.elim
/-! ### statements -/
theorem PostS.back {r : RS} {D : Ends} {m1 : List Addr} {H1 : Hp} (x : Ext m H m1 H1) (p : PostS C e W m H D r) : PostS C e W m1 H1 D r := by
  cases r with
  | nx τ g => exact fun m' H' σ' x' => p m' H' σ' (x.trans x')
  | rt u g => exact fun m' H' v x' => p m' H' v (x.trans x')
  | bk τ g => exact fun m' H' σ' x' => p m' H' σ' (x.trans x')
  | ct τ g => exact fun m' H' σ' x' => p m' H' σ' (x.trans x')
  | ex c d τ g => exact fun m' H' σ' a x' => p m' H' σ' a (x.trans x')
  | stuck => exact p
theorem PostS.imp {r : RS} {D D' : Ends} (p : PostS C e W m H D r) (h1 : ∀ σ H, D.nx σ H → D'.nx σ H) (h2 : ∀ v H, D.rt v H → D'.rt v H) (h3 : ∀ σ H, D.bk σ H → D'.bk σ H) (h4 : ∀ σ H, D.ct σ H → D'.ct σ H) : PostS C e W m H D' r := by
  cases r with
  | nx τ g => exact fun m' H' σ' x' r' s' => h1 _ _ (p m' H' σ' x' r' s')
  | rt u g => exact fun m' H' v x' r' s' => h2 _ _ (p m' H' v x' r' s')
  | bk τ g => exact fun m' H' σ' x' r' s' => h3 _ _ (p m' H' σ' x' r' s')
  | ct τ g => exact fun m' H' σ' x' r' s' => h4 _ _ (p m' H' σ' x' r' s')
  | ex c d τ g => exact p
  | stuck => exact p
theorem PostS.bnd {α β : Type} {R : List Addr → α → β → Prop} {r : Res α} {τ : Sl} {f : α → G → RS} {D : Ends} (hS : RSt m e τ σ) (p : PostS C e W m H D (bndS r τ f)) :
    Post C R m H (WH W σ) (fun b H1 => ∃ a m1 g1, Ext m H m1 H1 ∧ Rel C m1 g1 H1 ∧ RSt m1 e τ σ ∧ R m1 a b ∧ PostS C e W m1 H1 D (f a g1)) r := by
  cases r with
  | ok u g => exact fun m' H' v x' r' rv => ⟨u, m', g, x', r', hS.ext x'.pre, rv, p.back x'⟩
  | exc c d g => exact fun m' H' a x' r' ha => p m' H' σ a x' r' (hS.ext x'.pre) (by cases d <;> exact ha)
  | stuck => exact p
theorem PostS.nx {τ : Sl} {D : Ends} (p : PostS C e W m H D (.nx τ g)) (hR : Rel C m g H) (hS : RSt m e τ σ) : D.nx σ H := p m H σ (Ext.refl _ _) hR hS
theorem js_pass : JS C e W X (.Pass pos) sNx := ps_pass.imp fun D σ H h => by
  obtain ⟨m, g, τ, hR, hS, hP⟩ := h
  exact hP.nx hR hS
theorem js_break : JS C e W X (.Break pos) sBk := ps_break.imp fun D σ H h => by
  obtain ⟨m, g, τ, hR, hS, hP⟩ := h
  exact hP m H σ (Ext.refl _ _) hR hS
theorem js_continue : JS C e W X (.Continue pos) sCt := ps_continue.imp fun D σ H h => by
  obtain ⟨m, g, τ, hR, hS, hP⟩ := h
  exact hP m H σ (Ext.refl _ _) hR hS
theorem js_doc {y : Str} {j : Nat} {pos' : Pos} : JS C e W X (.Expr (.Constant (.str y) j pos) pos') sNx := ps_doc.imp fun D σ H h => by
  obtain ⟨m, g, τ, hR, hS, hP⟩ := h
  exact hP.nx hR hS
theorem js_expr (ha : JE C e W X a ta) (hs : swapsWith a none pos.line X.env = pure false) : JS C e W X (.Expr a pos) (sEx ta) := (ps_expr ha hs).imp fun D σ H h => by
  obtain ⟨m, g, τ, hR, hS, hP⟩ := h
  refine ⟨m, g, τ, hR, hS, (hP.bnd (R := RV) hS).imp ?_⟩
  rintro v H1 ⟨u, m1, g1, x1, R1, S1, rv, P1⟩
  exact P1.nx R1 S1
theorem js_ret (ha : JE C e W X a ta) : JS C e W X (.Return (some a) pos) (sRt ta) := (ps_ret ha).imp fun D σ H h => by
  obtain ⟨m, g, τ, hR, hS, hP⟩ := h
  refine ⟨m, g, τ, hR, hS, (hP.bnd (R := RV) hS).imp ?_⟩
  rintro v H1 ⟨u, m1, g1, x1, R1, S1, rv, P1⟩
  exact P1 m1 H1 v (Ext.refl _ _) R1 rv
theorem js_retN : JS C e W X (.Return none pos) sRtN := ps_retN.imp fun D σ H h => by
  obtain ⟨m, g, τ, hR, hS, hP⟩ := h
  exact hP m H _ (Ext.refl _ _) hR rfl
theorem js_if {tt : T} {sa sb : S} {ba bb : List Stmt} (hc : JT C e W X c tt) (ha : JB C e W X ba sa) (hb : JB C e W X bb sb) : JS C e W X (.If c ba bb pos) (sIf tt sa sb) := (ps_if hc ha hb).imp fun D σ H h => by
  obtain ⟨m, g, τ, hR, hS, hP⟩ := h
  refine ⟨m, g, τ, hR, hS, (hP.bnd (R := REq Bool) hS).imp ?_⟩
  rintro v H1 ⟨u, m1, g1, x1, R1, S1, rv, P1⟩
  obtain rfl : u = v := rv
  cases u with
  | true => exact ⟨m1, g1, τ, R1, S1, P1⟩
  | false => exact ⟨m1, g1, τ, R1, S1, P1⟩
theorem jb_nil : JB C e W X [] sNx := pss_nil.imp fun D σ H h => by
  obtain ⟨m, g, τ, hR, hS, hP⟩ := h
  exact hP.nx hR hS
theorem jb_one {st : Stmt} {s : S} (h : JS C e W X st s) : JB C e W X [st] s := pss_one h
theorem jb_cons {st : Stmt} {rest : List Stmt} {s t : S} (h1 : JS C e W X st s) (h2 : JB C e W X rest t) : JB C e W X (st :: rest) (sSeq s t) := (pss_cons h1 h2).imp fun D σ H h => by
  obtain ⟨m, g, τ, hR, hS, hP⟩ := h
  refine ⟨m, g, τ, hR, hS, ?_⟩
  simp only [sSeq] at hP
  cases q : s τ g with
  | nx τ' g' => simp only [q] at hP; exact fun m' H' σ' x' r' s' => ⟨m', g', τ', r', s', hP.back x'⟩
  | rt u g' => simp only [q] at hP; exact hP
  | bk τ' g' => simp only [q] at hP; exact hP
  | ct τ' g' => simp only [q] at hP; exact hP
  | ex c d τ' g' => simp only [q] at hP; exact hP
  | stuck => simp only [q] at hP; exact hP
theorem rd_as {t : Tg} {D : Ends} (h : rdS C e W (sAs ta t) D σ H) : tAsg (rdE C e W ta) (rdTg C e ix t) D σ H := by
  obtain ⟨m, g, τ, hR, hS, hP⟩ := h
  refine (fun h => h) (show rdG C e W RV ta σ H _ from ⟨m, g, τ, hR, hS, (hP.bnd (R := RV) hS).imp ?_⟩)
  rintro v H1 ⟨u, m1, g1, x1, R1, S1, rv, P1⟩
  refine ⟨m1, g1, τ, .one u, H1, R1, S1, ⟨rfl, rv⟩, ?_⟩
  cases q : t (.one u) τ g1 with
  | none => simp only [q] at P1; exact P1.elim
  | some τ' => simp only [q] at P1; exact fun σ' S' _ => P1.nx R1 S'
theorem js_as {t : Tg} (ha : JE C e W X a ta) (hg : JG C e X ix tg t) (hs : swapsWithSole [tg] a pos.line X.env = pure false) (hw : swappedStores [tg] a X.env = pure none) (h1 : (assignEach [tg] X.env).map (·.2) = [assign tg X.env]) : JS C e W X (.Assign [tg] a pos) (sAs ta t) := (ps_asg ha hg hs hw h1).imp fun _ _ _ h => rd_as h
theorem js_par {i j : Nat} {x y : Str} {px py pt : Pos} {kt k2 : Nat} {pt2 : Pos} (hc : X.calm = true) (hN : X.N.Nodup) (hi : X.N[i]? = some x) (hj : X.N[j]? = some y) (hij : i ≠ j)
    (hx : X.env.scope.names.lookup x = some .local) (hy : X.env.scope.names.lookup y = some .local) (ha : JA C e W X [a, b] aa)
    (hw : swappedStores [.Tuple [.Name x px, .Name y py] kt pt] (.Tuple [a, b] k2 pt2) X.env = pure (some [x, y]))
    (hs : swapsWithSole [.Tuple [.Name x px, .Name y py] kt pt] (.Tuple [a, b] k2 pt2) pos.line X.env = pure false) (he : ∀ z q, e = some (z, q) → z ≠ i ∧ z ≠ j) :
    JS C e W X (.Assign [.Tuple [.Name x px, .Name y py] kt pt] (.Tuple [a, b] k2 pt2) pos) (sPar i j aa) := (ps_par hc hN hi hj hij hx hy ha hw hs).imp fun D σ H h => by
  obtain ⟨m, g, τ, hR, hS, hP⟩ := h
  refine (fun h => h) (show rdG C e W RVs aa σ H _ from ⟨m, g, τ, hR, hS, (hP.bnd (R := RVs) hS).imp ?_⟩)
  rintro vs H1 ⟨us, m1, g1, x1, R1, S1, rv, P1⟩
  match us, rv, P1 with
  | [u, w], .cons r1 (.cons r2 .nil), P1 => exact ⟨_, _, rfl, P1.nx R1 ((S1.set r1 fun z q h => (he z q h).1).set r2 fun z q h => (he z q h).2)⟩
theorem js_par3 {i j l : Nat} {x y z : Str} {c : Expr} {px py pz pt : Pos} {kt k2 : Nat} {pt2 : Pos} (hc : X.calm = true) (hN : X.N.Nodup) (hi : X.N[i]? = some x) (hj : X.N[j]? = some y) (hl : X.N[l]? = some z) (hij : i ≠ j) (hil : i ≠ l) (hjl : j ≠ l)
    (hx : X.env.scope.names.lookup x = some .local) (hy : X.env.scope.names.lookup y = some .local) (hz : X.env.scope.names.lookup z = some .local) (ha : JA C e W X [a, b, c] aa)
    (hw : swappedStores [.Tuple [.Name x px, .Name y py, .Name z pz] kt pt] (.Tuple [a, b, c] k2 pt2) X.env = pure (some [x, y, z]))
    (hs : swapsWithSole [.Tuple [.Name x px, .Name y py, .Name z pz] kt pt] (.Tuple [a, b, c] k2 pt2) pos.line X.env = pure false) (he : ∀ z q, e = some (z, q) → z ≠ i ∧ z ≠ j ∧ z ≠ l) :
    JS C e W X (.Assign [.Tuple [.Name x px, .Name y py, .Name z pz] kt pt] (.Tuple [a, b, c] k2 pt2) pos) (sPar3 i j l aa) := (ps_par3 hc hN hi hj hl hij hil hjl hx hy hz ha hw hs).imp fun D σ H h => by
  obtain ⟨m, g, τ, hR, hS, hP⟩ := h
  refine (fun h => h) (show rdG C e W RVs aa σ H _ from ⟨m, g, τ, hR, hS, (hP.bnd (R := RVs) hS).imp ?_⟩)
  rintro vs H1 ⟨us, m1, g1, x1, R1, S1, rv, P1⟩
  match us, rv, P1 with
  | [u, w, w2], .cons r1 (.cons r2 (.cons r3 .nil)), P1 => exact ⟨_, _, _, rfl, P1.nx R1 (((S1.set r1 fun z q h => (he z q h).1).set r2 fun z q h => (he z q h).2.1).set r3 fun z q h => (he z q h).2.2)⟩
theorem set_ok : PSet X (fun o i v H Q => ∃ m g u y w, Rel C m g H ∧ RV m u o ∧ RV m y i ∧ RV m w v ∧ (match uSet u y w g with | some (_, g') => ∀ m' H', Ext m H m' H' → Rel C m' g' H' → Q H' | none => False)) := by
  intro pins s σ H o i v ov iv u Q I ro ri rv h
  obtain ⟨m, g, uo, ui, uv, R, r1, r2, r3, P⟩ := h
  unfold uSet at P
  cases uo with
  | obj n => cases ui with
    | int k =>
      obtain ⟨q, hq, rfl⟩ := r1
      obtain rfl := (show i = V.int k from r2)
      simp only at P
      cases e1 : g[n]? with
      | none => simp only [e1] at P
      | some ob => cases ob with
        | lst xs =>
          simp only [e1] at P
          cases e2 : ixN xs.length k with
          | none => simp only [e2] at P
          | some j =>
            simp only [e2] at P
            obtain ⟨vs, rv', h1⟩ := R.lst hq e1
            obtain ⟨r', x'⟩ := R.put hq (ro_put (Paired.set rv' r3 j))
            exact set_list pins s σ H _ _ v ov iv u Q I ro ri rv ⟨q, vs, k, j, rfl, rfl, h1, by rw [← Paired.len rv']; exact e2, P _ _ x' r'⟩
        | _ => simp only [e1] at P
    | _ => simp only at P
  | _ => simp only at P
theorem js_sub {tpos : Pos} {o i : Expr} {to ti : E} (ha : JE C e W X a ta) (ho : JE C e W X o to) (hi : JE C e W X i ti) (hs : swapsWithSole [.Subscript o i tpos] a pos.line X.env = pure false) (hw : swappedStores [.Subscript o i tpos] a X.env = pure none)
    (h1 : (assignEach [.Subscript o i tpos] X.env).map (·.2) = [assign (.Subscript o i tpos) X.env])
    (hsu : ∀ v, assign (.Subscript o i tpos) X.env v = (do
      let ov ← holding [v] (eval o X.env)
      let iv ← holding [v, ov] (eval i X.env)
      standAt tpos
      holding [v, ov, iv] (setItem ov iv v)
      release [v, ov, iv] [])) : JS C e W X (.Assign [.Subscript o i tpos] a pos) (sSub ta to ti) := (ps_asg ha (pg_sub ho hi (set_ok (C := C)) hsu) hs hw h1).imp fun D σ H h => by
  obtain ⟨m, g, τ, hR, hS, hP⟩ := h
  refine (fun h => h) (show rdG C e W RV ta σ H _ from ⟨m, g, τ, hR, hS, (hP.bnd (R := RV) hS).imp ?_⟩)
  rintro v H1 ⟨u, m1, g1, x1, R1, S1, rv, P1⟩
  refine (fun h => h) (show rdG C e W RV to σ H1 _ from ⟨m1, g1, τ, R1, S1, (P1.bnd (R := RV) S1).imp ?_⟩)
  rintro v2 H2 ⟨u2, m2, g2, x2, R2, S2, rv2, P2⟩
  refine (fun h => h) (show rdG C e W RV ti σ H2 _ from ⟨m2, g2, τ, R2, S2, (P2.bnd (R := RV) S2).imp ?_⟩)
  rintro v3 H3 ⟨u3, m3, g3, x3, R3, S3, rv3, P3⟩
  refine ⟨m3, g3, u2, u3, u, R3, rv2.ext x3.pre, rv3, (rv.ext x2.pre).ext x3.pre, ?_⟩
  cases q : uSet u2 u3 u g3 with
  | none => simp only [q] at P3; exact P3
  | some r => obtain ⟨_, g'⟩ := r; simp only [q] at P3; exact fun m' H' x' r' => P3 m' H' σ x' r' (S3.ext x'.pre)
/-! ### loops -/
theorem js_for {iter : Expr} {body : List Stmt} {ti : I} {t : Tg} {s : S} (hp : PassesOwn (model X.prog X.w) X.A X.env X.xe) (hc : X.calm = true) (hi : JI C e W X tg iter ti) (hg : JG C e X ix tg t) (hb : JB C e W X body s)
    (hs : ∀ x, foldedSetIterable iter X.env x = pure x) : JS C e W X (.For tg iter body [] pos) (sFor ti t s) := (ps_for hp hc hi hg hb hs).imp fun D σ H h => by
  obtain ⟨m, g, τ, hR, hS, hP⟩ := h
  refine (fun h => h) (show rdG C e W (RI C) ti σ H _ from ⟨m, g, τ, hR, hS, (hP.bnd (R := RI C) hS).imp ?_⟩)
  rintro J H1 ⟨w, m1, g1, x1, R1, S1, ⟨Gp, Y, wk, hG, hY⟩, P1⟩
  refine for_it wk (fun i σ' H' => ∃ m' g' τ', Ext m1 H1 m' H' ∧ Rel C m' g' H' ∧ RSt m' e τ' σ' ∧ PostS C e W m' H' D (forGo w t s (w.len - i) i τ' g')) ⟨m1, g1, τ, Ext.refl _ _, R1, S1, P1⟩ ?_ ?_ ?_
  · rintro i σ' H' hi ⟨m', g', τ', x', R', S', P'⟩
    refine hG m' g' H' x'.pre R' ?_
    by_cases ho : w.ok g' = true
    · exact ho
    · cases q : w.len - i with
      | zero => rw [q] at P'; simp only [forGo, if_neg ho] at P'; exact P'.elim
      | succ k => rw [q] at P'; simp only [forGo, if_neg ho] at P'; exact P'.elim
  · rintro i x σ' H' H2 hi ⟨m', g', τ', x', R', S', P'⟩ y
    obtain ⟨itm, e1, hI⟩ := hY i H' x H2 hi y
    have e2 : w.len - i = (w.len - (i + 1)) + 1 := by omega
    rw [e2] at P'
    have hI' : RItm m' itm H' x H2 := by
      cases itm with
      | one u => exact ⟨hI.1, hI.2.ext x'.pre⟩
      | two u w => obtain ⟨T, a, b, h1, h2, h3, h4, h5⟩ := hI; exact ⟨T, a, b, h1, h2, h3, h4.ext x'.pre, h5.ext x'.pre⟩
    have kp := hI'.keep
    refine ⟨m', g', τ', itm, H', R', S', hI', ?_⟩
    simp only [forGo, e1] at P'
    by_cases ho : w.ok g' = true
    · simp only [if_pos ho] at P'
      cases q1 : t itm τ' g' with
      | none => simp only [q1] at P'; exact P'.elim
      | some τ1 =>
        simp only [q1] at P'
        intro σ2 S2 _
        refine ⟨m', g', τ1, R'.keep kp, S2, ?_⟩
        have P2 := P'.back (Ext.keep kp)
        cases q2 : s τ1 g' with
        | nx τ2 g2 => simp only [q2] at P2; exact fun m3 H3 σ3 x3 r3 s3 => ⟨m3, g2, τ2, (x'.trans (Ext.keep kp)).trans x3, r3, s3, P2.back x3⟩
        | ct τ2 g2 => simp only [q2] at P2; exact fun m3 H3 σ3 x3 r3 s3 => ⟨m3, g2, τ2, (x'.trans (Ext.keep kp)).trans x3, r3, s3, P2.back x3⟩
        | bk τ2 g2 => simp only [q2] at P2; exact P2
        | rt u g2 => simp only [q2] at P2; exact P2
        | ex c d τ2 g2 => simp only [q2] at P2; exact P2
        | stuck => simp only [q2] at P2; exact P2
    · simp only [if_neg ho] at P'; exact P'.elim
  · rintro σ' H' ⟨m', g', τ', x', R', S', P'⟩
    rw [Nat.sub_self] at P'
    simp only [forGo] at P'
    by_cases ho : w.ok g' = true
    · simp only [if_pos ho] at P'; exact P'.nx R' S'
    · simp only [if_neg ho] at P'; exact P'.elim
theorem js_while {body : List Stmt} {tt : T} {s : S} {fuel : Nat} (hp : PassesOwn (model X.prog X.w) X.A X.env X.xe) (hc : JT C e W X c tt) (hb : JB C e W X body s) : JS C e W X (.While c body [] pos) (sWh fuel tt s) := (ps_while hp hc hb).imp fun D σ H h => by
  obtain ⟨m, g, τ, hR, hS, hP⟩ := h
  refine ⟨fun n σ' H' => ∃ m' g' τ', Ext m H m' H' ∧ Rel C m' g' H' ∧ RSt m' e τ' σ' ∧ PostS C e W m' H' D (whGo tt s n τ' g'), ⟨fuel, m, g, τ, Ext.refl _ _, hR, hS, hP⟩, ?_⟩
  rintro n σ' H' ⟨m', g', τ', x', R', S', P'⟩
  cases n with
  | zero => exact P'.elim
  | succ n =>
    simp only [whGo] at P'
    refine ⟨m', g', τ', R', S', (P'.bnd (R := REq Bool) S').imp ?_⟩
    rintro v H1 ⟨u, m1, g1, x1, R1, S1, rv, P1⟩
    obtain rfl : u = v := rv
    cases u with
    | false => exact P1.nx R1 S1
    | true =>
      simp only [if_true] at P1 ⊢
      refine ⟨fun σ2 H2 => ∃ m2 g2 τ2, Ext m H m2 H2 ∧ Rel C m2 g2 H2 ∧ RSt m2 e τ2 σ2 ∧ PostS C e W m2 H2 D (whGo tt s n τ2 g2), fun σ2 H2 h => ⟨n, Nat.lt_succ_self _, h⟩, m1, g1, τ', R1, S1, ?_⟩
      cases q2 : s τ' g1 with
      | nx τ2 g2 => simp only [q2] at P1; exact fun m3 H3 σ3 x3 r3 s3 => ⟨m3, g2, τ2, (x'.trans x1).trans x3, r3, s3, P1.back x3⟩
      | ct τ2 g2 => simp only [q2] at P1; exact fun m3 H3 σ3 x3 r3 s3 => ⟨m3, g2, τ2, (x'.trans x1).trans x3, r3, s3, P1.back x3⟩
      | bk τ2 g2 => simp only [q2] at P1; exact P1
      | rt u g2 => simp only [q2] at P1; exact P1
      | ex c d τ2 g2 => simp only [q2] at P1; exact P1
      | stuck => simp only [q2] at P1; exact P1
end
end PM

set_option Elab.async false
set_option linter.all false
set_option maxRecDepth 100000
set_option autoImplicit false
namespace PM
open PySem PySem.Spec PyProof.Rows L2

abbrev WF : WX := fun _ _ _ _ => False
theorem Rel.off {C : Names} {m : List Addr} {g : G} {H H' : Hp} (R : Rel C m g H) (k : ∀ a, a ∈ m → H' a = H a) : Rel C m g H' :=
  ⟨R.len, R.nd, fun n a o h1 h2 => (R.at_ n a o h1 h2).ext (fun _ _ h => h) fun u q => by rw [k a (List.mem_of_getElem? h1)]; exact q⟩
theorem RSt.drop {m : List Addr} {e : Option (Nat × Addr × Nat × Addr)} {τ : Sl} {σ : L2.St} (h : RSt m e τ σ) : RSt m none τ σ := ⟨h.1, h.2.1, fun _ _ q => nomatch q⟩
theorem RSt.wipe {m : List Addr} {τ : Sl} {σ : L2.St} (h : RSt m none τ σ) : ∀ vs : List Nat, RSt m none (wipeU τ vs) (L2.wipe σ vs)
  | [] => h
  | v :: vs => by
    obtain ⟨h1, h2, _⟩ := RSt.wipe h vs
    refine ⟨by simp [wipeU, L2.wipe, h1], fun i u q => ?_, fun _ _ q => nomatch q⟩
    simp only [wipeU] at q
    simp only [L2.wipe]
    by_cases hi : i = v
    · subst hi
      by_cases hl : i < (wipeU τ vs).length
      · rw [List.getElem?_set_self hl] at q; cases q
      · rw [List.getElem?_eq_none (by simpa using hl)] at q; cases q
    · rw [List.getElem?_set_ne (Ne.symm hi)] at q
      rw [List.getElem?_set_ne (Ne.symm hi)]
      exact h2 i u q
theorem wipe_get (σ : L2.St) : ∀ (vs : List Nat) (j : Nat), j < σ.length → (L2.wipe σ vs)[j]? = if j ∈ vs then some none else σ[j]?
  | [], j, h => by simp [L2.wipe]
  | v :: vs, j, h => by
    simp only [L2.wipe]
    by_cases hj : v = j
    · subst hj
      rw [List.getElem?_set_self (by rw [wipe_length]; exact h)]; simp
    · rw [List.getElem?_set_ne hj, wipe_get σ vs j h]
      have : j ≠ v := fun z => hj z.symm
      simp [this]
theorem wipe_keep {σ σ' : L2.St} {vs ix : List Nat} (k : Keep ix (L2.wipe σ vs) σ') (hs : ∀ i ∈ ix, i ∈ vs) : L2.wipe σ' vs = L2.wipe σ vs := by
  have hl : σ'.length = σ.length := by rw [k.1, wipe_length]
  apply List.ext_getElem?
  intro j
  by_cases hj : j < σ.length
  · rw [wipe_get σ' vs j (by omega), wipe_get σ vs j hj]
    by_cases hv : j ∈ vs
    · simp [hv]
    · have := k.2 j fun z => hv (hs j z)
      rw [wipe_get σ vs j hj] at this
      simp only [hv, if_false] at this ⊢
      exact this
  · rw [List.getElem?_eq_none (by rw [wipe_length]; omega), List.getElem?_eq_none (by rw [wipe_length]; omega)]
section
variable {C : Names} {e : Option (Nat × Addr × Nat × Addr)} {W : WX} {X : Cx} {tg a b c : Expr} {ta tb tc : E} {pos p : Pos} {es : List Expr} {aa ak : A} {σ : L2.St} {H : Hp} {x : Str} {m : List Addr} {g : G} {n k : Nat} {ix ix' : List Nat}
theorem rd_lc {ti : I} {t : Tg} {tt : T} {te : E} {vs : List Nat} {Q : VK} (hix : ∀ i ∈ ix, i ∈ vs) (h : rdE C e W (eLc ti t tt te vs) σ H Q) :
    tLc (rdI C e W ti) (rdTg C none ix t) (rdT C none WF tt) (rdE C none WF te) vs σ H Q := by
  obtain ⟨m, g, τ, hR, hS, hP⟩ := h
  refine (fun h => h) (show rdG C e W (RI C) ti σ H _ from ⟨m, g, τ, hR, hS, (Post.bnd (R := RI C) hP).imp ?_⟩)
  rintro J H1 ⟨w, m1, g1, x1, R1, ⟨Gp, Y, wk, hG, hY⟩, P1⟩
  intro D hD
  change Post C RV m1 H1 (WH W σ) Q (bnd (lcGo w t tt te (wipeU τ vs) w.len 0 [] g1) fun acc => lift fun g => push g (O.lst acc)) at P1
  have Sw : RSt m1 none (wipeU τ vs) (L2.wipe σ vs) := ((hS.ext x1.pre).drop).wipe vs
  have nD : D ∉ m1 := fun h => by obtain ⟨u, q⟩ := R1.mem h; rw [hD] at q; cases q
  have ext0 : Ext m1 H1 m1 (upd H1 D (.lst [])) := ⟨fun _ _ h => h, fun _ h => .inl h, fun a o h _ => keep_upd hD a o h⟩
  refine lc_it wk (fun i H' => ∃ m' g' acc vacc, Ext m1 H1 m' H' ∧ Rel C m' g' H' ∧ H' D = some (.lst vacc) ∧ D ∉ m' ∧ RVs m' acc vacc ∧ lcGo w t tt te (wipeU τ vs) w.len 0 [] g1 = lcGo w t tt te (wipeU τ vs) (w.len - i) i acc g')
    ⟨m1, g1, [], [], ext0, R1.keep (keep_upd hD), upd_same, nD, .nil, rfl⟩ ?_ ?_ ?_
  · rintro i H' hi ⟨m', g', acc, vacc, x', R', hd, nd, rv, he⟩
    refine hG m' g' H' x'.pre R' ?_
    by_cases ho : w.ok g' = true
    · exact ho
    · rw [he] at P1
      cases q : w.len - i with
      | zero => rw [q] at P1; simp only [lcGo, if_neg ho, bnd] at P1; exact P1.elim
      | succ k => rw [q] at P1; simp only [lcGo, if_neg ho, bnd] at P1; exact P1.elim
  · rintro i x H' H2 hi ⟨m', g', acc, vacc, x', R', hd, nd, rv, he⟩ y
    obtain ⟨itm, e1, hI⟩ := hY i H' x H2 hi y
    have e2 : w.len - i = (w.len - (i + 1)) + 1 := by omega
    rw [e2] at he
    have hI' : RItm m' itm H' x H2 := by
      cases itm with
      | one u => exact ⟨hI.1, hI.2.ext x'.pre⟩
      | two u w => obtain ⟨T, a, b, h1, h2, h3, h4, h5⟩ := hI; exact ⟨T, a, b, h1, h2, h3, h4.ext x'.pre, h5.ext x'.pre⟩
    have kp := hI'.keep
    refine ⟨m', g', wipeU τ vs, itm, H', R', Sw.ext x'.pre, hI', ?_⟩
    rw [he] at P1
    simp only [lcGo, e1] at P1 he
    by_cases ho : w.ok g' = true
    · simp only [if_pos ho] at P1 he
      cases q1 : t itm (wipeU τ vs) g' with
      | none => simp only [q1, bnd] at P1; exact P1.elim
      | some τ1 =>
        simp only [q1] at P1 he ⊢
        intro σ2 S2 K2
        refine ⟨wipe_keep K2 hix, m', g', τ1, R'.keep kp, S2, ?_⟩
        cases q2 : tt τ1 g' with
        | stuck => simp only [q2, bnd] at P1; exact P1.elim
        | exc c d g2 => simp only [q2, bnd] at P1; exact P1.elim
        | ok bb g2 =>
          intro m3 H3 v3 x3 r3 rv3
          obtain rfl : bb = v3 := rv3
          have x3' : Ext m1 H1 m3 H3 := (x'.trans (Ext.keep kp)).trans x3
          have hd2 : H2 D = some (.lst vacc) := kp _ _ hd
          have hd3 : H3 D = some (.lst vacc) := x3.fr D _ hd2 nd
          have nd3 : D ∉ m3 := fun z => by
            rcases x3.new D z with z | z
            · exact nd z
            · rw [hd2] at z; cases z
          cases bb with
          | false =>
            simp only [q2] at he
            exact ⟨m3, g2, acc, vacc, x3', r3, hd3, nd3, rv.ext x3.pre, he⟩
          | true =>
            simp only [q2] at P1 he
            simp only [if_true]
            refine ⟨m3, g2, τ1, r3, S2.ext x3.pre, ?_⟩
            cases q3 : te τ1 g2 with
            | stuck => simp only [q3, bnd] at P1; exact P1.elim
            | exc c d g3 => simp only [q3, bnd] at P1; exact P1.elim
            | ok u g3 =>
              simp only [q3] at P1 he
              by_cases hz : acc.length < sizeLine
              · simp only [if_pos hz] at he
                intro m4 H4 v4 x4 r4 rv4
                have hd4 : H4 D = some (.lst vacc) := x4.fr D _ hd3 nd3
                have nd4 : D ∉ m4 := fun z => by
                  rcases x4.new D z with z | z
                  · exact nd3 z
                  · rw [hd3] at z; cases z
                refine ⟨vacc, hd4, by rw [← Paired.len rv]; exact hz, m4, g3, acc ++ [u], vacc ++ [v4], ?_, ?_, upd_same, nd4, RVs.append ((rv.ext x3.pre).ext x4.pre) (.cons rv4 .nil), he⟩
                · have x4' := x3'.trans x4
                  refine ⟨x4'.pre, x4'.new, fun a o h hm => ?_⟩
                  have hne : a ≠ D := fun z => by subst z; rw [hD] at h; cases h
                  rw [upd_ne hne]; exact x4'.fr a o h hm
                · exact r4.off fun a ha => upd_ne fun z => nd4 (z ▸ ha)
              · simp only [if_neg hz, bnd] at P1; exact P1.elim
    · simp only [if_neg ho, bnd] at P1; exact P1.elim
  · rintro H' ⟨m', g', acc, vacc, x', R', hd, nd, rv, he⟩
    rw [Nat.sub_self] at he
    rw [he] at P1
    simp only [lcGo] at P1
    by_cases ho : w.ok g' = true
    · simp only [if_pos ho, bnd, lift, push] at P1
      have Rn : Rel C (m' ++ [D]) (g' ++ [.lst acc]) H' := by
        refine ⟨by simp [R'.len], ?_, fun n a o' h1 h2 => ?_⟩
        · rw [List.nodup_append]
          refine ⟨R'.nd, by simp, fun a ha b hb => ?_⟩
          rw [List.mem_singleton] at hb
          rintro rfl
          exact nd (hb ▸ ha)
        · have hl := R'.len
          by_cases hn : n < m'.length
          · rw [List.getElem?_append_left hn] at h1
            rw [List.getElem?_append_left (by omega)] at h2
            exact (R'.at_ n a o' h1 h2).ext (fun n a h => getElem?_snoc h) fun _ q => q
          · have h1' := (List.getElem?_eq_some_iff.mp h1).1
            rw [List.length_append, List.length_singleton] at h1'
            have en : n = m'.length := by omega
            subst en
            rw [List.getElem?_concat_length] at h1
            rw [hl, List.getElem?_concat_length] at h2
            cases h1; cases h2
            exact ⟨vacc, hd, RVs.snoc rv⟩
      refine P1 (m' ++ [D]) H' _ ⟨fun n a h => getElem?_snoc (x'.pre n a h), fun a h => ?_, x'.fr⟩ Rn ⟨D, ?_, rfl⟩
      · rw [List.mem_append, List.mem_singleton] at h
        rcases h with h | h
        · exact x'.new a h
        · exact .inr (h ▸ hD)
      · rw [← R'.len]; exact List.getElem?_concat_length
    · simp only [if_neg ho, bnd] at P1; exact P1.elim
variable {elt iter : Expr} {ifs : List Expr} {scope : Scope} {own : List (Str × Nat)} {ti : I} {t : Tg} {tt : T} {te : E}
theorem jts_nil {Y : Cx} : PTs Y [] (rdT C none WF tYs) := ⟨fun pins s σ H Q I h => pts_nil.run pins s σ H Q I (by
  obtain ⟨m, g, τ, hR, hS, hP⟩ := h
  exact hP.val hR rfl)⟩
theorem jts_one {Y : Cx} (h : JT C none WF Y c tt) : PTs Y [c] (rdT C none WF tt) := pts_one h
theorem je_lc (hc : X.calm = true) (hN : X.N.Nodup) (hi : JI C e W X tg iter ti) (ok : BlkOk X.N X.env.scope scope own) (hix : ∀ i ∈ ix, i ∈ own.map (·.2))
    (hg : ∀ (s : Shared) (H : Hp) (Cc : Addr) (cl : List (Str × Addr)) (fp : List Addr), JG C none (X.blk s H scope (compEnvC scope cl Cc X.env) fp) ix tg t)
    (ht : ∀ (s : Shared) (H : Hp) (Cc : Addr) (cl : List (Str × Addr)) (fp : List Addr), PTs (X.blk s H scope (compEnvC scope cl Cc X.env) fp) ifs (rdT C none WF tt))
    (he : ∀ (s : Shared) (H : Hp) (Cc : Addr) (cl : List (Str × Addr)) (fp : List Addr), JE C none WF (X.blk s H scope (compEnvC scope cl Cc X.env) fp) elt te)
    (hs : ∀ x, foldedSetIterable iter X.env x = pure x) : JE C e W X (.ListComp elt [⟨tg, iter, ifs, 0⟩] scope pos) (eLc ti t tt te (own.map (·.2))) :=
  (pe_lc hc hN hi ok hg ht he hs).imp fun σ H Q h => rd_lc hix h
theorem js_lc {i : Nat} {y : Str} {py spos : Pos} (hc : X.calm = true) (hN : X.N.Nodup) (hy : X.N[i]? = some y) (hyl : X.env.scope.names.lookup y = some .local) (hne : ∀ j q, e = some (j, q) → j ≠ i)
    (hsw : swapsWith (.ListComp elt [⟨tg, iter, ifs, 0⟩] scope pos) (some (.Name y py)) spos.line X.env = pure true) (hi : JI C e W X tg iter ti) (ok : BlkOk X.N X.env.scope scope own) (hix : ∀ i ∈ ix, i ∈ own.map (·.2))
    (hg : ∀ (s : Shared) (H : Hp) (Cc : Addr) (cl : List (Str × Addr)) (fp : List Addr), JG C none (X.blk s H scope (compEnvC scope cl Cc X.env) fp) ix tg t)
    (ht : ∀ (s : Shared) (H : Hp) (Cc : Addr) (cl : List (Str × Addr)) (fp : List Addr), PTs (X.blk s H scope (compEnvC scope cl Cc X.env) fp) ifs (rdT C none WF tt))
    (he : ∀ (s : Shared) (H : Hp) (Cc : Addr) (cl : List (Str × Addr)) (fp : List Addr), JE C none WF (X.blk s H scope (compEnvC scope cl Cc X.env) fp) elt te)
    (hs : ∀ x, foldedSetIterable iter X.env x = pure x) : JS C e W X (.Assign [.Name y py] (.ListComp elt [⟨tg, iter, ifs, 0⟩] scope pos) spos) (sAs (eLc ti t tt te (own.map (·.2))) (gN i)) :=
  (ps_setLc hc hN hy hyl hsw hi ok hg ht he hs).imp fun D σ H h => by
    have h2 := rd_as (ix := [i]) h
    refine rd_lc hix ?_
    obtain ⟨m, g, τ, hR, hS, hP⟩ := h2
    refine ⟨m, g, τ, hR, hS, hP.imp ?_⟩
    rintro v H1 ⟨m1, g1, τ1, itm, H0, r1, s1, i1, p1⟩
    cases itm with
    | one u => exact p1 _ (s1.set i1.2 hne) Keep.set
    | two u w => exact p1.elim
end
end PM

set_option Elab.async false
set_option linter.all false
set_option maxRecDepth 100000
set_option autoImplicit false
namespace PM
open PySem PySem.Spec PyProof.Rows L2

/-! ## defs and calls -/
/-- a def's semantics by its body -/
def fnM (n : Nat) (body : S) (us : List U) : M U := fun g => match body (us.map some ++ List.replicate (n - us.length) none) g with
  | .nx _ g' => .ok .non g'
  | .rt u g' => .ok u g'
  | .ex c d _ g' => .exc c d g'
  | _ => .stuck
/-- objects that only know older ones -/
def refs (n : Nat) : U → Bool
  | .obj k => decide (k < n)
  | _ => true
def refsO (n : Nat) : O → Bool
  | .lst xs => xs.all (refs n)
  | .frz xs => xs.all (refs n)
  | .tup xs => xs.all (refs n)
  | .dct xs => xs.all fun p => refs n p.2
  | .ins _ fs => fs.all fun p => refs n p.2
  | .xd fs => fs.all fun p => refs n p.2
/-- what a call leaves behind is dropped where nothing can know it -/
def gcOk (g g' : G) (u : U) : Bool := refs g.length u && decide (g.length ≤ g'.length) && (List.range g.length).all fun i => decide (g'[i]? = g[i]?) || (match g'[i]? with | some o => refsO g.length o | none => true)
def gc (f : M U) : M U := fun g => match f g with
  | .ok u g' => if gcOk g g' u = true then .ok u (g'.take g.length) else .ok u g'
  | r => r
def rdF (C : Names) (n : Nat) (f : List U → M U) : Sp := fun vs H Q E => vs.length = n ∧ ∃ m g us, Rel C m g H ∧ RVs m us vs ∧ Post C RV m H E Q (f us g)
section
variable {C : Names} {m m' : List Addr} {g g' : G} {H H' : Hp}
theorem RV.back {n : Nat} {u : U} {v : V} (pre : ∀ (n : Nat) (a : Addr), m[n]? = some a → m'[n]? = some a) (hl : m.length = n) (h : refs n u = true) (r : RV m' u v) : RV m u v := by
  cases u with
  | obj k =>
    obtain ⟨a, h1, rfl⟩ := r
    have hk : k < n := of_decide_eq_true h
    have hk' : k < m.length := by omega
    have e := pre k _ (List.getElem?_eq_getElem hk')
    rw [h1] at e
    exact ⟨a, by rw [List.getElem?_eq_getElem hk', ← e], rfl⟩
  | _ => exact r
theorem Paired.back {α β : Type} {F F' : α → β → Prop} {ok : α → Bool} (h : ∀ a b, ok a = true → F a b → F' a b) : ∀ {xs : List α} {ys : List β}, xs.all ok = true → Paired F xs ys → Paired F' xs ys
  | _, _, _, .nil => .nil
  | _, _, h1, .cons r t => by
    simp only [List.all_cons, Bool.and_eq_true] at h1
    exact .cons (h _ _ h1.1 r) (Paired.back h h1.2 t)
theorem RO.back {n : Nat} {o : O} {a : Addr} (pre : ∀ (n : Nat) (a : Addr), m[n]? = some a → m'[n]? = some a) (hl : m.length = n) (h : refsO n o = true) (r : RO C m' o a H) : RO C m o a H := by
  cases o with
  | lst xs => obtain ⟨vs, h1, h2⟩ := r; exact ⟨vs, h1, Paired.back (ok := refs n) (fun a b k r => RV.back pre hl k r) h h2⟩
  | frz xs => obtain ⟨ob, vs, h1, h2⟩ := r; exact ⟨ob, vs, h1, Paired.back (ok := refs n) (fun a b k r => RV.back pre hl k r) h h2⟩
  | tup xs => obtain ⟨vs, h1, h2⟩ := r; exact ⟨vs, h1, Paired.back (ok := refs n) (fun a b k r => RV.back pre hl k r) h h2⟩
  | dct xs => obtain ⟨vs, h1, h2⟩ := r; exact ⟨vs, h1, Paired.back (ok := fun p : Key × U => refs n p.2) (fun a b k r => ⟨r.1, RV.back (n := n) pre hl k r.2⟩) h h2⟩
  | ins c fs => obtain ⟨dx, vs, h1, h2⟩ := r; exact ⟨dx, vs, h1, Paired.back (ok := fun p : Nat × U => refs n p.2) (fun a b k r => ⟨r.1, RV.back (n := n) pre hl k r.2⟩) h h2⟩
  | xd fs => obtain ⟨vs, h1, h2⟩ := r; exact ⟨vs, h1, Paired.back (ok := fun p : Nat × U => refs n p.2) (fun a b k r => ⟨r.1, RV.back (n := n) pre hl k r.2⟩) h h2⟩
/-- an old object that reads the same in both knows only old ones -/
theorem Rel.cut {u : U} (R : Rel C m g H) (x : Ext m H m' H') (R' : Rel C m' g' H') (h : gcOk g g' u = true) : Rel C m (g'.take g.length) H' ∧ ∀ v, RV m' u v → RV m u v := by
  simp only [gcOk, Bool.and_eq_true, List.all_eq_true, List.mem_range, decide_eq_true_eq, Bool.or_eq_true] at h
  obtain ⟨⟨h1, h2⟩, h3⟩ := h
  have hl := R.len
  refine ⟨⟨by simp [hl]; omega, R.nd, fun n a o e1 e2 => ?_⟩, fun v r => RV.back x.pre hl h1 r⟩
  have hn : n < g.length := R.lt e1
  rw [List.getElem?_take_of_lt hn] at e2
  have ro' := R'.at_ n a o (x.pre n a e1) e2
  rcases h3 n hn with q | q
  · rw [e2] at q
    have ro := R.at_ n a o e1 q.symm
    -- the same object: its values are known by m
    have same : ∀ {xs : List U} {vs vs' : List V}, RVs m xs vs → RVs m' xs vs' → RVs m xs vs' := by
      intro xs
      induction xs with
      | nil => intro vs vs' r1 r2; cases r2; exact .nil
      | cons z zs ih =>
        intro vs vs' r1 r2
        cases r1 with
        | cons a1 t1 => cases r2 with
          | cons a2 t2 =>
            refine .cons ?_ (ih t1 t2)
            cases z with
            | obj k => obtain ⟨p, q1, rfl⟩ := a1; obtain ⟨p', q2, rfl⟩ := a2; rw [x.pre _ _ q1] at q2; cases q2; exact ⟨_, q1, rfl⟩
            | _ => exact a2
    have sameK : ∀ {xs : List (Key × U)} {vs vs' : List (Key × V)}, RKV m xs vs → RKV m' xs vs' → RKV m xs vs' := by
      intro xs
      induction xs with
      | nil => intro vs vs' r1 r2; cases r2; exact .nil
      | cons z zs ih =>
        intro vs vs' r1 r2
        cases r1 with
        | cons a1 t1 => cases r2 with
          | cons a2 t2 =>
            refine .cons ⟨a2.1, ?_⟩ (ih t1 t2)
            obtain ⟨zk, z⟩ := z
            cases z with
            | obj k => obtain ⟨_, p, q1, e1⟩ := a1; obtain ⟨_, p', q2, e2⟩ := a2; rw [x.pre _ _ q1] at q2; cases q2; exact ⟨_, q1, e2⟩
            | _ => exact a2.2
    have sameF : ∀ {xs : List (Nat × U)} {vs vs' : List (Str × V)}, RFs C m xs vs → RFs C m' xs vs' → RFs C m xs vs' := by
      intro xs
      induction xs with
      | nil => intro vs vs' r1 r2; cases r2; exact .nil
      | cons z zs ih =>
        intro vs vs' r1 r2
        cases r1 with
        | cons a1 t1 => cases r2 with
          | cons a2 t2 =>
            refine .cons ⟨a2.1, ?_⟩ (ih t1 t2)
            obtain ⟨zk, z⟩ := z
            cases z with
            | obj k => obtain ⟨_, p, q1, e1⟩ := a1; obtain ⟨_, p', q2, e2⟩ := a2; rw [x.pre _ _ q1] at q2; cases q2; exact ⟨_, q1, e2⟩
            | _ => exact a2.2
    cases o with
    | lst xs => obtain ⟨vs, p1, p2⟩ := ro'; obtain ⟨_, _, p3⟩ := ro; exact ⟨vs, p1, same p3 p2⟩
    | frz xs => obtain ⟨ob, vs, p1, p2⟩ := ro'; obtain ⟨_, _, _, p3⟩ := ro; exact ⟨ob, vs, p1, same p3 p2⟩
    | tup xs => obtain ⟨vs, p1, p2⟩ := ro'; obtain ⟨_, _, p3⟩ := ro; exact ⟨vs, p1, same p3 p2⟩
    | dct xs => obtain ⟨vs, p1, p2⟩ := ro'; obtain ⟨_, _, p3⟩ := ro; exact ⟨vs, p1, sameK p3 p2⟩
    | ins c fs => obtain ⟨dx, vs, p1, p2⟩ := ro'; obtain ⟨_, _, _, p3⟩ := ro; exact ⟨dx, vs, p1, sameF p3 p2⟩
    | xd fs => obtain ⟨vs, p1, p2⟩ := ro'; obtain ⟨_, _, p3⟩ := ro; exact ⟨vs, p1, sameF p3 p2⟩
  · rw [e2] at q
    exact RO.back x.pre hl q ro'
theorem Ext.cut {m : List Addr} {H : Hp} {m' : List Addr} {H' : Hp} (x : Ext m H m' H') : Ext m H m H' := ⟨fun _ _ h => h, fun _ h => .inl h, x.fr⟩
theorem rdF_gc {n : Nat} {f : List U → M U} {vs : List V} {Q : VK} {E : XK} (h : rdF C n (fun us => gc (f us)) vs H Q E) : rdF C n f vs H Q E := by
  obtain ⟨hl, m, g, us, hR, rv, hP⟩ := h
  refine ⟨hl, m, g, us, hR, rv, ?_⟩
  simp only [gc] at hP
  cases q : f us g with
  | ok u g' =>
    simp only [q] at hP
    by_cases hg : gcOk g g' u = true
    · simp only [if_pos hg] at hP
      intro m' H' v x' r' rv'
      obtain ⟨r2, k⟩ := hR.cut x' r' hg
      exact hP m H' v x'.cut r2 (k v rv')
    · simp only [if_neg hg] at hP; exact hP
  | exc c d g' => simp only [q] at hP; exact hP
  | stuck => simp only [q] at hP; exact hP
end
section
variable {P : Program} {w : World} {K : PySem.W.Frag} {mg : Str → Option Value} {base : Heap} {C : Names}
theorem start_rst {m : List Addr} {us : List U} {vs : List V} {N : List Str} (r : RVs m us vs) : RSt m none (us.map some ++ List.replicate (N.length - us.length) none) (L2.start N vs) := by
  have hl := Paired.len r
  refine ⟨by simp [L2.start, hl], fun i u q => ?_, fun _ _ q => nomatch q⟩
  unfold L2.start
  by_cases hi : i < us.length
  · rw [List.getElem?_append_left (by simpa using hi)] at q
    rw [List.getElem?_append_left (by simp; omega)]
    rw [List.getElem?_map] at q ⊢
    rw [List.getElem?_eq_getElem hi] at q
    simp only [Option.map_some, Option.some.injEq] at q
    obtain ⟨v, h1, h2⟩ := Paired.get r (List.getElem?_eq_getElem hi)
    exact ⟨v, by rw [h1]; rfl, q ▸ h2⟩
  · rw [List.getElem?_append_right (by simp; omega)] at q
    rw [List.getElem?_replicate] at q
    split at q <;> cases q
/-- a def of the text, by its body -/
theorem fn_ok {x qual : Str} {st : Stmt} {f : Addr} {fd : FuncData} {N ps : List Str} {k : Nat} {body : S} (F : Fun K x qual st f fd) (Sc : FnScope N ps (defScope st))
    (hb : ∀ (cdv : Value) (A : Around) (outer : List Env) (s : Shared) (H : Hp) (E : XK), Room k (A.deeper (envOfC qual (defScope st) s.heap.objs.size f cdv)) →
      JB C none (fun cls d _ H => E cls d H) (cxOf (L2.CX P w) P w K mg base N qual (defScope st) f cdv A outer s H E) (defBody st) body) :
    FnOk P w K mg base (L2.CX P w) (k + 1) f fd ps (rdF C ps.length fun us => gc (fnM N.length body us)) := by
  have h0 : FnOk P w K mg base (L2.CX P w) (k + 1) f fd ps (rdF C ps.length (fnM N.length body)) := by
    refine F.okX Sc (fun vs H Q E h => h.1) fun cdv A outer s H vs Q E hr h => ?_
    refine ⟨_, hb cdv A outer s H E hr, ?_⟩
    obtain ⟨hl, m, g, us, hR, rv, hP⟩ := h
    refine ⟨m, g, _, hR, start_rst (N := N) rv, ?_⟩
    simp only [fnM] at hP
    cases q : body (us.map some ++ List.replicate (N.length - us.length) none) g with
    | nx τ g' => simp only [q] at hP; exact fun m' H' σ' x' r' s' => hP m' H' _ x' r' rfl
    | rt u g' => simp only [q] at hP; exact fun m' H' v x' r' s' => hP m' H' v x' r' s'
    | bk τ g' => simp only [q] at hP; exact hP.elim
    | ct τ g' => simp only [q] at hP; exact hP.elim
    | ex c d τ g' => simp only [q] at hP; exact fun m' H' σ' a x' r' s' ha => hP m' H' a x' r' (by cases d <;> exact ha)
    | stuck => simp only [q] at hP; exact hP.elim
  exact h0.imp fun vs H Q E h => rdF_gc h
end
/-- what a call does, by values -/
def CallSem (C : Names) (W : WX) (X : Cx) (f : Addr) (n : Nat) (ks : List Str) (sem : List U → List U → M U) : Prop :=
  ∀ (pins : List (Addr × Obj)) (s : Shared) (σ : L2.St) (H : Hp) (uv zv : List Value) (vs zs : List V) (Q : VK), Inv X pins σ H s → Vals vs uv → Vals zs zv → vs.length = n → zs.length = ks.length →
    (∃ m g us ys, Rel C m g H ∧ RVs m us vs ∧ RVs m ys zs ∧ Post C RV m H (WH W σ) Q (sem us ys g)) → wpAny (model X.prog X.w) X.A (call (.ref f) uv (ks.zip zv)) (EP X pins σ Q) X.xe s
section
variable {C : Names} {e : Option (Nat × Addr × Nat × Addr)} {W : WX} {X : Cx} {a b c : Expr} {ta tb tc : E} {pos p : Pos} {es : List Expr} {aa ak : A} {σ : L2.St} {H : Hp} {x : Str} {f : Addr} {n : Nat} {ks : List Str} {sem : List U → List U → M U} {kws : List Keyword}
theorem callSem_of {k : Nat} {fd : FuncData} {ps : List Str} {fm : List U → M U} (F : FnOk X.prog X.w X.K X.mg X.base (L2.CX X.prog X.w) k f fd ps (rdF C ps.length fm)) (hr : Room k X.A) (tk : Takes X W)
    (gv : List Value → List Value → List Value) (gV : List V → List V → List V) (gU : List U → List U → List U)
    (hb : ∀ (s : Shared) (us zs : List Value), X.K.In s.heap → us.length = n → zs.length = ks.length → BindsTo s fd ⟨us, ks.zip zs⟩ (ps.zip (gv us zs)))
    (hl : ∀ us zs : List Value, us.length = n → zs.length = ks.length → (gv us zs).length = ps.length)
    (r1 : ∀ {vs : List V} {us : List Value} {zs : List V} {ws : List Value}, Vals vs us → Vals zs ws → Vals (gV vs zs) (gv us ws))
    (r2 : ∀ {m : List Addr} {us : List U} {vs : List V} {ys : List U} {zs : List V}, RVs m us vs → RVs m ys zs → RVs m (gU us ys) (gV vs zs)) :
    CallSem C W X f n ks (fun us ys => fm (gU us ys)) := by
  intro pins s σ H uv zv vs zs Q I rv rz l1 l2 ⟨m, g, us, ys, hR, q1, q2, hP⟩
  have e1 : uv.length = n := by rw [← rv.length]; exact l1
  have e2 : zv.length = ks.length := by rw [← rz.length]; exact l2
  have hv := r1 rv rz
  have hw : wpAny (model X.prog X.w) X.A (call (.ref f) uv (ks.zip zv)) (EP X pins σ Q) X.xe s := by
    refine wpAny_call (codeAny_mono (F.run X.A X.stack s H ⟨uv, ks.zip zv⟩ (gv uv zv) (gV vs zs) Q (WE W σ) hr I.env0 (hb s uv zv I.kIn e1 e2) hv ⟨by rw [hv.length]; exact hl _ _ e1 e2, m, g, gU us ys, hR, r2 q1 q2, hP⟩) fun r s' hq => ?_)
    cases r with
    | error e => exact passAt tk σ pins H s e s' I hq
    | ok fl =>
      cases fl with
      | ret u => exact I.after hq
      | next => exact False.elim hq
      | brk => exact False.elim hq
      | cont => exact False.elim hq
  exact hw
theorem rd_F {Q : VK} (h : rdE C e W (eF sem aa ak) σ H Q) : rdA C e W aa σ H fun vs H1 => rdA C e W ak σ H1 fun zs H2 => ∃ m g us ys, Rel C m g H2 ∧ RVs m us vs ∧ RVs m ys zs ∧ Post C RV m H2 (WH W σ) Q (sem us ys g) := by
  obtain ⟨m, g, τ, hR, hS, hP⟩ := h
  refine ⟨m, g, τ, hR, hS, (Post.bnd (R := RVs) hP).imp ?_⟩
  rintro vs H1 ⟨us, m1, g1, x1, R1, rv, P1⟩
  refine ⟨m1, g1, τ, R1, hS.ext x1.pre, (Post.bnd (R := RVs) P1).imp ?_⟩
  rintro zs H2 ⟨ys, m2, g2, x2, R2, rz, P2⟩
  exact ⟨m2, g2, us, ys, R2, rv.ext x2.pre, rz, P2⟩
def tLen (n : Nat) (a : A) : A := fun τ g => bnd (a τ g) fun xs g => if xs.length = n then .ok xs g else .stuck
/-- a call, with the numbers of values that it needs -/
def eG (n k : Nat) (sem : List U → List U → M U) (a ak : A) : E := fun τ g => bnd (a τ g) fun xs g => bnd (ak τ g) fun ys g => if xs.length = n ∧ ys.length = k then sem xs ys g else .stuck
theorem rd_G {k : Nat} {Q : VK} (h : rdE C e W (eG n k sem aa ak) σ H Q) : rdA C e W aa σ H fun vs H1 => rdA C e W ak σ H1 fun zs H2 => (vs.length = n ∧ zs.length = k) ∧ ∃ m g us ys, Rel C m g H2 ∧ RVs m us vs ∧ RVs m ys zs ∧ Post C RV m H2 (WH W σ) Q (sem us ys g) := by
  obtain ⟨m, g, τ, hR, hS, hP⟩ := h
  refine ⟨m, g, τ, hR, hS, (Post.bnd (R := RVs) hP).imp ?_⟩
  rintro vs H1 ⟨us, m1, g1, x1, R1, rv, P1⟩
  refine ⟨m1, g1, τ, R1, hS.ext x1.pre, (Post.bnd (R := RVs) P1).imp ?_⟩
  rintro zs H2 ⟨ys, m2, g2, x2, R2, rz, P2⟩
  by_cases hz : us.length = n ∧ ys.length = k
  · simp only [if_pos hz] at P2
    exact ⟨⟨by rw [← Paired.len rv]; exact hz.1, by rw [← Paired.len rz]; exact hz.2⟩, m2, g2, us, ys, R2, rv.ext x2.pre, rz, P2⟩
  · simp only [if_neg hz] at P2; exact P2.elim
theorem je_call (hf : CallSem C W X f n [] sem) (hg : Gl X x) (hm : X.mg x = some (.ref f)) (hk : PySem.W.keepIn X.K (.ref f) = true) (ha : JA C e W X (a :: es) aa) (hdb : (x == ("__debug__" : Str)) = false)
    (he : starEach (a :: es) X.env = (false, eval a X.env) :: starEach es X.env) (hpl : (backTo pos (starEach es X.env)).any (·.1) = false) : JE C e W X (.Call (.Name x p) (a :: es) [] pos) (eG n 0 sem aa aNil) := by
  refine ⟨fun pins s σ H Q I h => ?_⟩
  refine wpAny_Call_Name_kw (ld_glob I hg hm ?_ hdb)
  refine PySem.W.callWith_K (h₀ := X.base) I.ok.mod.kin hk (thn (ha.run pos pins s σ H _ I (rd_G h)) fun us s1 ⟨vs, H1, I1, r, q⟩ => ⟨I1.kIn, ?_⟩) he hpl
  obtain ⟨m, g, τ, hR, hS, hP⟩ := q
  have := hP.val hR .nil
  exact hf pins s1 σ H1 us [] vs [] Q I1 r .nil this.1.1 rfl this.2
theorem je_call0 (hf : CallSem C W X f n [] sem) (hg : Gl X x) (hm : X.mg x = some (.ref f)) (hk : PySem.W.keepIn X.K (.ref f) = true) (hdb : (x == ("__debug__" : Str)) = false) : JE C e W X (.Call (.Name x p) [] [] pos) (eG n 0 sem aNil aNil) := by
  refine ⟨fun pins s σ H Q I h => ?_⟩
  refine wpAny_Call_Name_kw (ld_glob I hg hm ?_ hdb)
  obtain ⟨m, g, τ, hR, hS, hP⟩ := rd_G h
  obtain ⟨m, g, τ, hR, hS, hP⟩ := hP.val hR .nil
  have := hP.val hR .nil
  exact PySem.W.callWith_K0 I.kIn hk (hf pins s σ H [] [] [] [] Q I .nil .nil this.1.1 rfl this.2)
theorem je_callK (hf : CallSem C W X f n ks sem) (hg : Gl X x) (hm : X.mg x = some (.ref f)) (hk : PySem.W.keepIn X.K (.ref f) = true) (ha : JA C e W X (a :: es) aa) (hkw : JK C e W X kws ak)
    (hall : (backToKw pos (keywordEach kws X.env)).all (·.1.isSome) = true) (hks : (backToKw pos (keywordEach kws X.env)).filterMap (·.1) = ks) (hdb : (x == ("__debug__" : Str)) = false)
    (he : starEach (a :: es) X.env = (false, eval a X.env) :: starEach es X.env) (hpl : ((backTo pos (starEach (a :: es) X.env)).any (·.1) || (backToKw pos (keywordEach kws X.env)).any (·.1.isNone)) = false) : JE C e W X (.Call (.Name x p) (a :: es) kws pos) (eG n ks.length sem aa ak) := by
  refine ⟨fun pins s σ H Q I h => ?_⟩
  refine wpAny_Call_Name_kw (ld_glob I hg hm ?_ hdb)
  refine PySem.W.callWith_KW (h₀ := X.base) I.ok.mod.kin hk hall (thn (ha.run pos pins s σ H _ I (rd_G h)) fun us s1 ⟨vs, H1, I1, r, q⟩ => ?_) hpl he
  refine thn (hkw.run pos pins s1 σ H1 _ I1 q) fun ws s2 ⟨zs, H2, I2, rz, q2⟩ => ⟨I2.kIn, ?_⟩
  rw [hks]
  exact hf pins s2 σ H2 us ws vs zs Q I2 r rz q2.1.1 q2.1.2 q2.2
theorem je_callK0 (hf : CallSem C W X f n ks sem) (hg : Gl X x) (hm : X.mg x = some (.ref f)) (hk : PySem.W.keepIn X.K (.ref f) = true) (hkw : JK C e W X kws ak)
    (hall : (backToKw pos (keywordEach kws X.env)).all (·.1.isSome) = true) (hks : (backToKw pos (keywordEach kws X.env)).filterMap (·.1) = ks) (hdb : (x == ("__debug__" : Str)) = false)
    (hpl : ((backTo pos (starEach [] X.env)).any (·.1) || (backToKw pos (keywordEach kws X.env)).any (·.1.isNone)) = false) : JE C e W X (.Call (.Name x p) [] kws pos) (eG n ks.length sem aNil ak) := by
  refine ⟨fun pins s σ H Q I h => ?_⟩
  refine wpAny_Call_Name_kw (ld_glob I hg hm ?_ hdb)
  obtain ⟨m, g, τ, hR, hS, hP⟩ := rd_G h
  have q := hP.val hR .nil
  refine PySem.W.callWith_KW0 (h₀ := X.base) I.ok.mod.kin hk hall ?_ hpl
  refine thn (hkw.run pos pins s σ H _ I q) fun ws s2 ⟨zs, H2, I2, rz, q2⟩ => ⟨I2.kIn, ?_⟩
  rw [hks]
  exact hf pins s2 σ H2 [] ws [] zs Q I2 .nil rz q2.1.1 q2.1.2 q2.2
end
end PM

set_option Elab.async false
set_option linter.all false
set_option maxRecDepth 100000
set_option autoImplicit false
namespace PM
open PySem PySem.Spec PyProof.Rows L2

/-! ## own errors: made and raised -/
/-- raise C(..): the error's own dict is laid -/
def sRz (c : Nat) (fl : List Nat) (a : A) : S := fun τ g => bndS (a τ g) τ fun us g => if us.length = fl.length ∧ us.length ≤ 1000 then .ex c (some g.length) τ (g ++ [.xd (fl.zip us).reverse]) else .stuck
/-- what __init__ of such a class promises -/
def spOex (C : Addr) (fl : List Str) : Sp := fun vs H Q _ => ∃ (a : Addr) (ws : List V), vs = .ref a :: ws ∧ ws.length = fl.length ∧ H a = some (exo a C none) ∧
  ∀ d H', H d = none → d ≠ a → (∀ b, b ≠ a → b ≠ d → H' b = H b) → H' a = some (exo a C (some d)) → H' d = some (exd d (fl.zip ws).reverse) → Q .non H'
section
variable {P : Program} {w : World} {K : PySem.W.Frag} {mg : Str → Option Value} {base : Heap}
theorem oex1_ok {qual s0 v0 f : Str} {st : Stmt} {fI C : Addr} {fd : FuncData} {p1 p2 p3 p4 : Pos} (k : Nat) (F : Fun K "__init__" qual st fI fd) (Sc : FnScope [s0, v0] [s0, v0] (defScope st))
    (hb : defBody st = [.Assign [.Attribute (.Name s0 p1) f p2] (.Name v0 p3) p4]) (v1 : Vis (defScope st) s0) (v2 : Vis (defScope st) v0)
    (d1 : (s0 == ("__debug__" : Str)) = false) (d2 : (s0 == ("__classdict__" : Str)) = false) (d3 : (v0 == ("__debug__" : Str)) = false) (d4 : (v0 == ("__classdict__" : Str)) = false)
    (T : OexC K C) (no : PySem.W.findIn K (.ref C) f = some none) : FnOk P w K mg base (L2.CX P w) (k + 1) fI fd [s0, v0] (spOex C [f]) := by
  refine F.okX Sc (fun vs H Q E h => ?_) fun cdv A outer s H vs Q E hr h => ?_
  · obtain ⟨a, ws, rfl, hl, _⟩ := h; simp [hl]
  · obtain ⟨a, ws, rfl, hl, ha, q⟩ := h
    match ws, hl with
    | [y], _ =>
      rw [hb]
      refine ⟨_, pss_one (ps_ost (pe_var (i := 0) rfl v1 d1 d2) (pe_var (i := 1) rfl v2 d3 d4)), ?_⟩
      refine ⟨y, rfl, .ref a, rfl, a, C, rfl, T, no, .inl ⟨ha, fun dx hdx hne => ?_⟩⟩
      refine q dx _ hdx hne (fun b n1 n2 => by rw [upd_ne n1, upd_ne n2]) upd_same ?_
      rw [upd_ne hne, upd_same]; rfl
theorem oex2_ok {qual s0 v0 v0' f f' : Str} {st : Stmt} {fI C : Addr} {fd : FuncData} {p1 p2 p3 p4 q1 q2 q3 q4 : Pos} (k : Nat) (F : Fun K "__init__" qual st fI fd) (Sc : FnScope [s0, v0, v0'] [s0, v0, v0'] (defScope st))
    (hb : defBody st = [.Assign [.Attribute (.Name s0 p1) f p2] (.Name v0 p3) p4, .Assign [.Attribute (.Name s0 q1) f' q2] (.Name v0' q3) q4]) (v1 : Vis (defScope st) s0) (v2 : Vis (defScope st) v0) (v3 : Vis (defScope st) v0')
    (d1 : (s0 == ("__debug__" : Str)) = false) (d2 : (s0 == ("__classdict__" : Str)) = false) (d3 : (v0 == ("__debug__" : Str)) = false) (d4 : (v0 == ("__classdict__" : Str)) = false) (d5 : (v0' == ("__debug__" : Str)) = false) (d6 : (v0' == ("__classdict__" : Str)) = false)
    (T : OexC K C) (no : PySem.W.findIn K (.ref C) f = some none) (no' : PySem.W.findIn K (.ref C) f' = some none) : FnOk P w K mg base (L2.CX P w) (k + 1) fI fd [s0, v0, v0'] (spOex C [f, f']) := by
  refine F.okX Sc (fun vs H Q E h => ?_) fun cdv A outer s H vs Q E hr h => ?_
  · obtain ⟨a, ws, rfl, hl, _⟩ := h; simp [hl]
  · obtain ⟨a, ws, rfl, hl, ha, q⟩ := h
    match ws, hl with
    | [y, y'], _ =>
      rw [hb]
      refine ⟨_, pss_cons (ps_ost (pe_var (i := 0) rfl v1 d1 d2) (pe_var (i := 1) rfl v2 d3 d4)) (pss_one (ps_ost (pe_var (i := 0) rfl v1 d1 d2) (pe_var (i := 2) rfl v3 d5 d6))), ?_⟩
      refine ⟨y, rfl, .ref a, rfl, a, C, rfl, T, no, .inl ⟨ha, fun dx hdx hne => ?_⟩⟩
      refine ⟨y', rfl, .ref a, rfl, a, C, rfl, T, no', .inr ⟨dx, [(f, y)], upd_same, ?_, by show 1 ≤ 900; decide, ?_⟩⟩
      · rw [upd_ne hne, upd_same]
      · refine q dx _ hdx hne (fun b n1 n2 => ?_) ?_ ?_
        · rw [upd_ne n2, upd_ne n1, upd_ne n2]
        · rw [upd_ne (Ne.symm hne), upd_same]
        · rw [upd_same]; rfl
end
section
variable {C : Names} {e : Option (Nat × Addr × Nat × Addr)} {W : WX} {X : Cx} {a b c : Expr} {ta tb tc : E} {pos p pos2 : Pos} {es : List Expr} {aa ak : A} {σ : L2.St} {H : Hp} {x : Str} {n : Nat}
theorem Paired.reverse {α β : Type} {F : α → β → Prop} {xs : List α} {ys : List β} (h : Paired F xs ys) : Paired F xs.reverse ys.reverse := by
  induction h with
  | nil => exact .nil
  | cons r t ih =>
    simp only [List.reverse_cons]
    have app : ∀ {as : List α} {bs : List β} {as' : List α} {bs' : List β}, Paired F as bs → Paired F as' bs' → Paired F (as ++ as') (bs ++ bs') := by
      intro as bs as' bs' h1 h2
      induction h1 with
      | nil => exact h2
      | cons r t ih => exact .cons r ih
    exact app ih (.cons r .nil)
theorem zip_rfs {m : List Addr} : ∀ {fl : List Nat} {us : List U} {vs : List V}, us.length = fl.length → RVs m us vs → RFs C m (fl.zip us) ((fl.map C.fld).zip vs)
  | [], [], _, _, .nil => .nil
  | f :: fl, u :: us, _, hl, .cons r t => .cons ⟨rfl, r⟩ (zip_rfs (by simpa using hl) t)
theorem js_raise {c : Nat} {fl : List Nat} {fI : Addr} {k : Nat} {fd : FuncData} {ps : List Str} (hc : X.calm = true) (tk : Takes X W) (T : OexC X.K (C.cad c)) (iC : PySem.W.findIn X.K (.ref (C.cad c)) "__init__" = some (some (.ref fI))) (tI : PySem.W.typeIn X.K (.ref fI) = some (.type "function"))
    (F1 : FnOk X.prog X.w X.K X.mg X.base (L2.CX X.prog X.w) k fI fd ps (spOex (C.cad c) (fl.map C.fld))) (hr : Room (k + 1) X.A) (hb : Binds X.K fd ps []) (hg : Gl X x) (hm : X.mg x = some (.ref (C.cad c))) (ha : JA C e W X (a :: es) aa)
    (hdb : (x == ("__debug__" : Str)) = false) (he : starEach (a :: es) X.env = (false, eval a X.env) :: starEach es X.env) (hpl : (backTo pos (starEach es X.env)).any (·.1) = false) :
    JS C e W X (.Raise (some (.Call (.Name x p) (a :: es) [] pos)) none pos2) (sRz c fl aa) := (ps_raise hc tk (pmk_oex T iC tI F1 hr hb .nil passL hg hm ha hdb he hpl)).imp fun D σ H h => by
  obtain ⟨m, g, τ, hR, hS, hP⟩ := h
  refine (fun h => h) (show rdG C e W RVs aa σ H _ from ⟨m, g, τ, hR, hS, (hP.bnd (R := RVs) hS).imp ?_⟩)
  rintro vs H1 ⟨us, m1, g1, x1, R1, S1, rv, P1⟩
  by_cases hz : us.length = fl.length ∧ us.length ≤ 1000
  · simp only [if_pos hz] at P1
    refine ⟨by rw [← Paired.len rv]; exact hz.2, fun ad had => ?_⟩
    refine ⟨ad, vs, by simp, by rw [← Paired.len rv, List.length_map]; exact hz.1, upd_same, fun d H' hd hne hk h1 h2 => ?_⟩
    have hd1 : H1 d = none := by rw [upd_ne hne] at hd; exact hd
    refine ⟨rfl, d, _, h1, h2, hd1, ?_⟩
    have eH : upd (del H' ad) d (.xd ((fl.map C.fld).zip vs).reverse) = upd H1 d (.xd ((fl.map C.fld).zip vs).reverse) := by
      funext b
      by_cases b1 : b = d
      · subst b1; rw [upd_same, upd_same]
      · rw [upd_ne b1, upd_ne b1]
        by_cases b2 : b = ad
        · subst b2; rw [del_same, had]
        · rw [del_ne b2, hk b b2 b1, upd_ne b2]
    rw [eH]
    obtain ⟨r', x'⟩ := R1.push (o := .xd (fl.zip us).reverse) hd1 ⟨_, upd_same, RFs.ext (fun _ _ h => getElem?_snoc h) (Paired.reverse (zip_rfs hz.1 rv))⟩
    refine P1 _ _ σ (some d) x' r' (S1.ext x'.pre) ⟨d, ?_, rfl⟩
    rw [← R1.len]; exact List.getElem?_concat_length
  · simp only [if_neg hz] at P1; exact P1.elim
end
/-! ## try with several clauses, each with a name or without -/
/-- what the clauses wish, one after the other -/
def wAll (K : PySem.W.Frag) (Wout : WX) (D : Ends) : List (Value × Option Nat × (Addr → Value → Option Addr → TS)) → WX
  | [] => Wout
  | (c, none, ts) :: r => fun cls d σ H => ∃ b, PySem.W.exmOne K cls c = some b ∧ (b = true → ∀ a, H a = none → ts a cls d D σ H) ∧ (b = false → wAll K Wout D r cls d σ H)
  | (c, some i, ts) :: r => fun cls d σ H => ∃ b, PySem.W.exmOne K cls c = some b ∧
      (b = true → ∀ a, H a = none → ts a cls d { nx := fun σ' H' => D.nx (σ'.set i none) H', rt := D.rt, bk := fun σ' H' => D.bk (σ'.set i none) H', ct := fun σ' H' => D.ct (σ'.set i none) H' } (σ.set i (some (.ref a))) H) ∧ (b = false → wAll K Wout D r cls d σ H)
inductive Clauses (X : Cx) : List ExceptHandler → List (Value × Option Nat × (Addr → Value → Option Addr → TS)) → Prop
  | nil : Clauses X [] []
  | plain {x : Str} {c : Value} {ts : Addr → Value → Option Addr → TS} {b₀ : Stmt} {suite : List Stmt} {np pos' : Pos} {hds : List ExceptHandler} {l : List (Value × Option Nat × (Addr → Value → Option Addr → TS))} (hc : L2.Names X x c)
      (hsu : ∀ (a : Addr) (oe : Obj) (cls : Value) (d : Option Addr) (pn : List (Addr × Obj)), Zc cls d oe → (∃ vs, oe.data = .fields vs) → PSs (X.suite a ((a, oe) :: pn)) (b₀ :: suite) (ts a cls d)) (r : Clauses X hds l) :
      Clauses X (.ExceptHandler (some (.Name x np)) none (b₀ :: suite) pos' :: hds) ((c, none, ts) :: l)
  | named {x n : Str} {i : Nat} {c : Value} {ts : Addr → Value → Option Addr → TS} {b₀ : Stmt} {suite : List Stmt} {np pos' : Pos} {hds : List ExceptHandler} {l : List (Value × Option Nat × (Addr → Value → Option Addr → TS))} (hc : L2.Names X x c) (hi : X.N[i]? = some n) (hln : X.env.kindOf n = some .local)
      (hsu : ∀ (a : Addr) (oe : Obj) (cls : Value) (d : Option Addr) (pn : List (Addr × Obj)), Zc cls d oe → (∃ vs, oe.data = .fields vs) → PSs (X.suite a ((a, oe) :: pn)) (b₀ :: suite) (ts a cls d)) (r : Clauses X hds l) :
      Clauses X (.ExceptHandler (some (.Name x np)) (some n) (b₀ :: suite) pos' :: hds) ((c, some i, ts) :: l)
theorem ps_try_all {X : Cx} {body : List Stmt} {h₀ : ExceptHandler} {hds : List ExceptHandler} {l : List (Value × Option Nat × (Addr → Value → Option Addr → TS))} {pos : Pos} {tb : WX → TS} {Wout : WX}
    (hs : X.stack = X.env :: X.outer) (hf : X.env.frame = some X.env.locals) (hN : X.N.Nodup) (tk : Takes X Wout)
    (hb : ∀ (W : WX) (pn : List (Addr × Obj)) (xe : Value → Shared → Prop), Takes (X.tr pn xe) W → PassesOwn (model X.prog X.w) X.A X.env xe → PSs (X.tr pn xe) body (tb W))
    (hh : Clauses X (h₀ :: hds) l) : PS X (.Try body (h₀ :: hds) [] [] pos) (fun D σ H => tb (wAll X.K Wout D l) D σ H) := by
  refine ⟨fun pins s σ H D I h => ?_⟩
  have ok := I.ok
  have hfr : X.A.frames = some (X.env :: X.outer) := by rw [ok.frames, hs]
  refine wpAny_Try_except ?_
  refine wpAny_mono ((hb (wAll X.K Wout D l) (X.pn ++ pins) (fun e s₁ => wpAny (model X.prog X.w) X.A (noteFrame e X.env) (fun _ s₂ => wpAny (model X.prog X.w) X.A (setFlight e none) (fun _ s₃ =>
    wpAny (model X.prog X.w) X.A (handleBy e X.env (h₀ :: hds)) (SP X pins D) X.xe s₃) X.xe s₂) X.xe s₁) (fun u s' xx => ?_) PassesOwn.looking).run [] s σ H D (I.toTry _) h) (fun f s1 hsp => ?_) (fun e s1 he => he)
  · obtain ⟨a, B, sI, pins', σ', H', cls, d, rfl, J', nb, up, sky, na, os, ag, w⟩ := xx
    have J : Inv X pins σ' H' sI := J'.ofTry ok
    have sky' : Sky B (X.env :: X.outer) a (Zc cls d) X.env.locals s'.heap := by rw [← hs]; exact sky
    show wpAny (model X.prog X.w) X.A (noteFrame (.ref a) X.env) _ _ _
    refine Sky.land Zc.steady hfr hf sky' fun h3 fl3 up3 => ?_
    have J3 : Inv X pins σ' H' { s' with heap := h3 } := J.landed nb fl3.1 (up.trans up3) os ag
    obtain ⟨oe3, vs3, he3, hz3, hd3⟩ := fl3.there
    have nfr : a ∉ frs (X.env :: X.outer) := fun hm => by
      obtain ⟨_, o', e', hnf⟩ := fl3.2.2.1.mem hm
      rw [he3] at e'; cases e'
      exact hnf _ hd3
    have nL : a ≠ X.env.locals := fun z => nfr (List.mem_filterMap.mpr ⟨X.env, List.mem_cons_self, by rw [hf, z]⟩)
    have nF : a ∉ X.fs := fun hm => by
      obtain ⟨e, he, q⟩ := List.mem_filterMap.mp hm
      exact nfr (List.mem_filterMap.mpr ⟨e, List.mem_cons_of_mem _ he, q⟩)
    have S3 := J3.suite he3 hd3 na nL nF
    have LT : PySem.W.Looks (model X.prog X.w) h3 (typeOf (.ref a)) cls := fun A Q E s k q => wpAny_typeOf_ref (k _ _ he3) (by rw [hz3.1]; exact q)
    have test : ∀ {x : Str} {c : Value} {np : Pos} {Q : Value → Shared → Prop} {E : Value → Shared → Prop}, L2.Names X x c → Q c { s' with heap := h3 } → wpAny (model X.prog X.w) (X.A.mark (some (.ref a))) (eval (.Name x np) X.env) Q E { s' with heap := h3 } := fun {x c np Q E} hc q => by
      obtain ⟨hg, hdbg, hm | ⟨hm, hv, hnn⟩⟩ := hc
      · exact ld_glob (X := X.suite a ((a, oe3) :: (X.pn ++ pins))) S3 hg hm q hdbg
      · exact ld_blt (X := X.suite a ((a, oe3) :: (X.pn ++ pins))) S3 hg hm hv q hnn hdbg
    have go : ∀ {hds' : List ExceptHandler} {l' : List (Value × Option Nat × (Addr → Value → Option Addr → TS))}, Clauses X hds' l' → wAll X.K Wout D l' cls d σ' H' →
        wpAny (model X.prog X.w) X.A (handleBy (.ref a) X.env hds') (SP X pins D) X.xe { s' with heap := h3 } := by
      intro hds' l' hk
      induction hk with
      | nil =>
        intro w
        refine wpAny_handleBy_nil ?_
        obtain ⟨k1, k2, k3, oe, vs, T, oT, ts', he, hz, hd, h1, hr⟩ := id fl3
        unfold PySem.passOn
        refine wpAny_bind (wpAny_field he hd h1 ?_)
        rw [if_neg (show ¬ ((Value.ref T == Value.none) = true) from by simp)]
        have fin : wpAny (model X.prog X.w) X.A (setFlight (.ref a) X.env.frame) (fun _ s4 => wpAny (model X.prog X.w) X.A (throw (.ref a) : Sem Flow) (SP X pins D) X.xe s4) X.xe { s' with heap := h3 } := by
          rw [hf]
          refine HandSPX.setFlight_upZ fl3 fun h4 hh4 up4 => wpAny_throw (tk _ _ ?_)
          exact ⟨a, B, sI, pins, σ', H', cls, d, rfl, J, nb, (up.trans up3).trans up4, .inr (.inr (by rw [hs]; exact hh4)), na, os, ag, w⟩
        first
          | exact wpAny_bind (wpAny_pure (wpAny_bind fin))
          | exact wpAny_bind fin
      | @plain x c ts b₀ suite np pos' hds2 l2 hc hsu r ih =>
        intro w
        obtain ⟨b, hb1, hyes, hno⟩ := w
        refine wpAny_handleBy_cons (codeAny_handlers_test ?_) (by intro q; cases q)
        refine test hc ((PySem.W.exm_one (M := model X.prog X.w) (J3.kIn) LT hb1).here ?_)
        cases b with
        | true =>
          refine codeAny_handlers_suite ?_
          refine HandSPX.lands_againZ fl3 fun h4 fl4 up4 => ?_
          have J4 : Inv X pins σ' H' { s' with heap := h4 } := J.landed nb fl4.1 ((up.trans up3).trans up4) os ag
          obtain ⟨oe4, vs4, he4, hz4, hd4⟩ := fl4.there
          have S4 := J4.suite he4 hd4 na nL nF
          refine wpAny_mono ((hsu a oe4 cls d (X.pn ++ pins) hz4 ⟨_, hd4⟩).run [] _ _ H' _ S4 (hyes rfl a na)) (fun f s6 hsp => ?_) (fun _ _ z => False.elim z)
          cases f with
          | next => obtain ⟨σ6, H6, S6, q6⟩ := hsp; exact ⟨_, _, S6.unsuite ok, q6⟩
          | brk => obtain ⟨σ6, H6, S6, q6⟩ := hsp; exact ⟨_, _, S6.unsuite ok, q6⟩
          | cont => obtain ⟨σ6, H6, S6, q6⟩ := hsp; exact ⟨_, _, S6.unsuite ok, q6⟩
          | ret u => obtain ⟨v6, σ6, H6, S6, r6, q6⟩ := hsp; exact ⟨_, _, _, S6.unsuite ok, r6, q6⟩
        | false =>
          show wpAny _ X.A (handleBy (.ref a) X.env hds2) _ _ _
          exact ih (hno rfl)
      | @named x n i c ts b₀ suite np pos' hds2 l2 hc hi hln hsu r ih =>
        intro w
        obtain ⟨b, hb1, hyes, hno⟩ := w
        refine wpAny_handleBy_cons (codeAny_handlers_test ?_) (by intro q; cases q)
        refine test hc ((PySem.W.exm_one (M := model X.prog X.w) (J3.kIn) LT hb1).here ?_)
        cases b with
        | true =>
          refine codeAny_handlers_suite_as ?_
          refine HandSPX.lands_againZ fl3 fun h4 fl4 up4 => ?_
          have J4 : Inv X pins σ' H' { s' with heap := h4 } := J.landed nb fl4.1 ((up.trans up3).trans up4) os ag
          obtain ⟨oe4, vs4, he4, hz4, hd4⟩ := fl4.there
          have S4 := J4.suite he4 hd4 na nL nF
          refine store_ok (X := X.suite a ((a, oe4) :: (X.pn ++ pins))) (v := .ref a) S4 hN hi (.inl hln) rfl (fun s5 S5 => ?_) (.inr hln)
          refine wpAny_mono ((hsu a oe4 cls d (X.pn ++ pins) hz4 ⟨_, hd4⟩).run [] s5 _ H' _ S5 (hyes rfl a na)) (fun f s6 hsp => ?_) (fun _ _ z => False.elim z)
          have end_ : ∀ {σ6 : L2.St} {H6 : Hp} {Q : Shared → Prop}, Inv (X.suite a ((a, oe4) :: (X.pn ++ pins))) [] σ6 H6 s6 → (∀ s7, Inv X pins (σ6.set i none) H6 s7 → Q s7) →
              wpAny (model X.prog X.w) X.A (do bindName X.env n .none; unbindBehindTheSuite X.env n pos') (fun _ s7 => Q s7) X.xe s6 := fun {σ6 H6 Q} S6 hq => gone_ok (S6.unsuite ok) hN hi hln hq
          cases f with
          | next => obtain ⟨σ6, H6, S6, q6⟩ := hsp; exact end_ S6 fun s7 J7 => ⟨_, _, J7, q6⟩
          | brk => obtain ⟨σ6, H6, S6, q6⟩ := hsp; exact end_ S6 fun s7 J7 => ⟨_, _, J7, q6⟩
          | cont => obtain ⟨σ6, H6, S6, q6⟩ := hsp; exact end_ S6 fun s7 J7 => ⟨_, _, J7, q6⟩
          | ret u => obtain ⟨v6, σ6, H6, S6, r6, q6⟩ := hsp; exact end_ S6 fun s7 J7 => ⟨_, _, _, J7, r6, q6⟩
        | false =>
          show wpAny _ X.A (handleBy (.ref a) X.env hds2) _ _ _
          exact ih (hno rfl)
    exact go hh w
  · cases f with
    | next => obtain ⟨σ', H', J', q⟩ := hsp; exact wpAny_execs_nil ⟨σ', H', J'.ofTry ok, q⟩
    | brk => obtain ⟨σ', H', J', q⟩ := hsp; exact ⟨σ', H', J'.ofTry ok, q⟩
    | cont => obtain ⟨σ', H', J', q⟩ := hsp; exact ⟨σ', H', J'.ofTry ok, q⟩
    | ret u => obtain ⟨v, σ', H', J', r, q⟩ := hsp; exact ⟨v, σ', H', J'.ofTry ok, r, q⟩
end PM

set_option Elab.async false
set_option linter.all false
set_option maxRecDepth 100000
set_option autoImplicit false
namespace PM
open PySem PySem.Spec PyProof.Rows L2

def clr (i : Nat) : RS → RS
  | .nx τ g => .nx (τ.set i none) g
  | .bk τ g => .bk (τ.set i none) g
  | .ct τ g => .ct (τ.set i none) g
  | .rt u g => .rt u g
  | .ex _ _ _ _ => .stuck
  | .stuck => .stuck
def noX : RS → RS
  | .ex _ _ _ _ => .stuck
  | r => r
abbrev Hd := Nat × Option Nat × (Nat → Nat → S)
def tryGo (sub : Nat → Nat → Bool) : List Hd → Nat → Option Nat → S
  | [], c, d, τ, g => .ex c d τ g
  | (c', none, s) :: r, c, d, τ, g => if sub c c' = true then noX (s c 0 τ g) else tryGo sub r c d τ g
  | (c', some i, s) :: r, c, d, τ, g => if sub c c' = true then (match d with | some n => if i < τ.length then clr i (s c n (τ.set i none) g) else .stuck | none => .stuck) else tryGo sub r c d τ g
def sTry (sub : Nat → Nat → Bool) (body : S) (hs : List Hd) : S := fun τ g => match body τ g with | .ex c d τ' g' => tryGo sub hs c d τ' g' | r => r
/-- error.f in an except suite: n is the place of the error's dict -/
def eXat (n f : Nat) : E := fun _ g => match g[n]? with | some (.xd fs) => (match fs.lookup f with | some u => .ok u g | none => .stuck) | _ => .stuck
section
variable {C : Names} {X : Cx} {m : List Addr} {g : G} {H : Hp} {σ : L2.St}
theorem lookup_fld {m : List Addr} (inj : ∀ p q, C.fld p = C.fld q → p = q) : ∀ {fs : List (Nat × U)} {vs : List (Str × V)} {k : Nat} {u : U}, RFs C m fs vs → fs.lookup k = some u → ∃ v, vs.lookup (C.fld k) = some v ∧ RV m u v
  | _, _, _, _, .nil, h => by simp at h
  | (f, x) :: fs, (f', y) :: vs, k, u, .cons r t, h => by
    obtain ⟨r1, r2⟩ := r
    change C.fld f = f' at r1
    subst r1
    by_cases hk : k = f
    · subst hk
      simp only [List.lookup_cons_self, Option.some.injEq] at h
      subst h
      exact ⟨y, by simp, r2⟩
    · have h1 : (k == f) = false := by simpa using hk
      have h2 : (C.fld k == C.fld f) = false := by
        rw [beq_eq_false_iff_ne]; exact fun z => hk (inj _ _ z)
      simp only [List.lookup_cons, h1] at h
      simp only [List.lookup_cons, h2]
      exact lookup_fld inj t h
theorem je_xat {i n f : Nat} {a b : Addr} {oe : Obj} {cls : Value} {d : Option Addr} {pn : List (Addr × Obj)} {x : Str} {pos p : Pos} {c : Nat} (inj : ∀ p q, C.fld p = C.fld q → p = q) (T : XfC X.K (C.cad c)) (hno : PySem.W.findIn X.K (.ref (C.cad c)) (C.fld f) = some none)
    (hz : Zc cls d oe) (hf : ∃ vs, oe.data = .fields vs) (hc : cls = .ref (C.cad c)) (hd : d = some b) (hN : X.N[i]? = some x) (hv : Vis X.env.scope x) (hd1 : (x == ("__debug__" : Str)) = false) (hd2 : (x == ("__classdict__" : Str)) = false) :
    JE C (some (i, a, n, b)) WF (X.suite a ((a, oe) :: pn)) (.Attribute (.Name x p) (C.fld f) pos) (eXat n f) :=
  (pe_xf T hno hz hf (pe_var (X := X.suite a ((a, oe) :: pn)) hN hv hd1 hd2)).imp fun σ H Q h => by
    obtain ⟨m, g, τ, hR, hS, hP⟩ := h
    obtain ⟨h1, h2⟩ := hS.2.2 i _ rfl
    refine ⟨_, h1, rfl, hc, b, ?_⟩
    simp only [eXat] at hP
    cases q : g[n]? with
    | none => simp only [q] at hP; exact hP.elim
    | some o => cases o with
      | xd fs =>
        simp only [q] at hP
        obtain ⟨vs, e1, e2⟩ := hR.at_ n b _ h2 q
        cases q2 : fs.lookup f with
        | none => simp only [q2] at hP; exact hP.elim
        | some u =>
          simp only [q2] at hP
          obtain ⟨v, e3, e4⟩ := lookup_fld inj e2 q2
          exact ⟨vs, v, hd, e1, e3, hP.val hR e4⟩
      | _ => simp only [q] at hP; exact hP.elim
/-- the clauses' readings -/
def tsOf (C : Names) (sub : Nat → Nat → Bool) (c' : Nat) (io : Option Nat) (s : Nat → Nat → S) : Addr → Value → Option Addr → TS := match io with
  | none => fun _ cls _ D σ H => ∃ c, sub c c' = true ∧ cls = .ref (C.cad c) ∧ rdS C none WF (s c 0) D σ H
  | some i => fun a cls d D σ H => ∃ c n b, sub c c' = true ∧ cls = .ref (C.cad c) ∧ d = some b ∧ rdS C (some (i, a, n, b)) WF (s c n) D σ H
theorem RSt.err {m : List Addr} {τ : Sl} {σ : L2.St} {i n : Nat} {a b : Addr} (h : RSt m none τ σ) (hi : i < τ.length) (hn : m[n]? = some b) : RSt m (some (i, a, n, b)) (τ.set i none) (σ.set i (some (.ref a))) := by
  refine ⟨by simp [h.1], fun j u q => ?_, fun j q e => ?_⟩
  · by_cases hj : j = i
    · subst hj; rw [List.getElem?_set_self hi] at q; cases q
    · rw [List.getElem?_set_ne (Ne.symm hj)] at q
      rw [List.getElem?_set_ne (Ne.symm hj)]
      exact h.2.1 j u q
  · cases e
    exact ⟨List.getElem?_set_self (by rw [← h.1]; exact hi), hn⟩
theorem RSt.clr {m : List Addr} {e : Option (Nat × Addr × Nat × Addr)} {τ : Sl} {σ : L2.St} {i : Nat} (h : RSt m e τ σ) : RSt m none (τ.set i none) (σ.set i none) := by
  refine ⟨by simp [h.1], fun j u q => ?_, fun _ _ q => nomatch q⟩
  by_cases hj : j = i
  · subst hj
    by_cases hl : j < τ.length
    · rw [List.getElem?_set_self hl] at q; cases q
    · rw [List.getElem?_eq_none (by simpa using hl)] at q; cases q
  · rw [List.getElem?_set_ne (Ne.symm hj)] at q
    rw [List.getElem?_set_ne (Ne.symm hj)]
    exact h.2.1 j u q
theorem try_w {K : PySem.W.Frag} {sub : Nat → Nat → Bool} {Wout : WX} {D : Ends} (hx : ∀ c c', PySem.W.exmOne K (.ref (C.cad c)) (.ref (C.cad c')) = some (sub c c')) {c : Nat} {d : Option Nat} {τ : Sl} {g : G} {a : Option Addr} (hR : Rel C m g H) (hS : RSt m none τ σ) (hd : RD m d a) :
    ∀ {hs : List Hd}, PostS C none Wout m H D (tryGo sub hs c d τ g) → wAll K Wout D (hs.map fun h => (Value.ref (C.cad h.1), h.2.1, tsOf C sub h.1 h.2.1 h.2.2)) (.ref (C.cad c)) a σ H
  | [], p => p m H σ a (Ext.refl _ _) hR hS hd
  | (c', none, s) :: r, p => by
    simp only [tryGo] at p
    refine ⟨sub c c', hx c c', fun h ad _ => ?_, fun h => ?_⟩
    · rw [if_pos h] at p
      refine ⟨c, h, rfl, m, g, τ, hR, hS, ?_⟩
      change PostS C none WF m H D (s c 0 τ g)
      cases q : s c 0 τ g with
      | ex _ _ _ _ => simp only [q, noX] at p; exact p.elim
      | _ => simp only [q, noX] at p; exact p
    · rw [if_neg (by rw [h]; exact Bool.false_ne_true)] at p
      exact try_w hx hR hS hd p
  | (c', some i, s) :: r, p => by
    simp only [tryGo] at p
    refine ⟨sub c c', hx c c', fun h ad _ => ?_, fun h => ?_⟩
    · rw [if_pos h] at p
      cases d with
      | none => exact p.elim
      | some n =>
        obtain ⟨b, h1, rfl⟩ := hd
        simp only at p
        by_cases hi : i < τ.length
        · rw [if_pos hi] at p
          refine ⟨c, n, b, h, rfl, rfl, m, g, _, hR, hS.err hi h1, ?_⟩
          change PostS C (some (i, ad, n, b)) WF m H _ (s c n (τ.set i none) g)
          cases q : s c n (τ.set i none) g with
          | ex _ _ _ _ => simp only [q, clr] at p; exact p.elim
          | stuck => simp only [q, clr] at p; exact p.elim
          | rt u g2 => simp only [q, clr] at p; exact p
          | nx τ2 g2 => simp only [q, clr] at p; exact fun m2 H2 σ2 x2 r2 s2 => p m2 H2 _ x2 r2 (RSt.clr s2)
          | bk τ2 g2 => simp only [q, clr] at p; exact fun m2 H2 σ2 x2 r2 s2 => p m2 H2 _ x2 r2 (RSt.clr s2)
          | ct τ2 g2 => simp only [q, clr] at p; exact fun m2 H2 σ2 x2 r2 s2 => p m2 H2 _ x2 r2 (RSt.clr s2)
        · rw [if_neg hi] at p; exact p.elim
    · rw [if_neg (by rw [h]; exact Bool.false_ne_true)] at p
      exact try_w hx hR hS hd p
theorem js_try {W : WX} {sub : Nat → Nat → Bool} {body : List Stmt} {h₀ : ExceptHandler} {hds : List ExceptHandler} {hs : List Hd} {pos : Pos} {s : S} (hx : ∀ c c', PySem.W.exmOne X.K (.ref (C.cad c)) (.ref (C.cad c')) = some (sub c c'))
    (hst : X.stack = X.env :: X.outer) (hf : X.env.frame = some X.env.locals) (hN : X.N.Nodup) (tk : Takes X W)
    (hb : ∀ (W' : WX) (pn : List (Addr × Obj)) (xe : Value → Shared → Prop), Takes (X.tr pn xe) W' → PassesOwn (model X.prog X.w) X.A X.env xe → JB C none W' (X.tr pn xe) body s)
    (hh : Clauses X (h₀ :: hds) (hs.map fun h => (Value.ref (C.cad h.1), h.2.1, tsOf C sub h.1 h.2.1 h.2.2))) : JS C none W X (.Try body (h₀ :: hds) [] [] pos) (sTry sub s hs) :=
  (ps_try_all (tb := fun W' => rdS C none W' s) hst hf hN tk hb hh).imp fun D σ H h => by
    obtain ⟨m, g, τ, hR, hS, hP⟩ := h
    refine ⟨m, g, τ, hR, hS, ?_⟩
    simp only [sTry] at hP
    cases q : s τ g with
    | ex c d τ' g' => simp only [q] at hP; exact fun m' H' σ' a x' r' s' hd => try_w hx r' s' hd (hP.back x')
    | nx _ _ => simp only [q] at hP; exact hP
    | rt _ _ => simp only [q] at hP; exact hP
    | bk _ _ => simp only [q] at hP; exact hP
    | ct _ _ => simp only [q] at hP; exact hP
    | stuck => simp only [q] at hP; exact hP
theorem cl_plain {sub : Nat → Nat → Bool} {x : Str} {c' : Nat} {s : Nat → Nat → S} {b₀ : Stmt} {suite : List Stmt} {np pos' : Pos} {hds : List ExceptHandler} {l : List (Value × Option Nat × (Addr → Value → Option Addr → TS))} (hc : L2.Names X x (.ref (C.cad c')))
    (hsu : ∀ (a : Addr) (oe : Obj) (cls : Value) (d : Option Addr) (pn : List (Addr × Obj)), Zc cls d oe → (∃ vs, oe.data = .fields vs) → ∀ c, sub c c' = true → cls = .ref (C.cad c) → JB C none WF (X.suite a ((a, oe) :: pn)) (b₀ :: suite) (s c 0)) (r : Clauses X hds l) :
    Clauses X (.ExceptHandler (some (.Name x np)) none (b₀ :: suite) pos' :: hds) ((.ref (C.cad c'), none, tsOf C sub c' none s) :: l) :=
  .plain hc (fun a oe cls d pn hz hf => ⟨fun pins st σ H D I ⟨c, h1, h2, h3⟩ => (hsu a oe cls d pn hz hf c h1 h2).run pins st σ H D I h3⟩) r
theorem cl_named {sub : Nat → Nat → Bool} {x n : Str} {i c' : Nat} {s : Nat → Nat → S} {b₀ : Stmt} {suite : List Stmt} {np pos' : Pos} {hds : List ExceptHandler} {l : List (Value × Option Nat × (Addr → Value → Option Addr → TS))} (hc : L2.Names X x (.ref (C.cad c'))) (hi : X.N[i]? = some n) (hln : X.env.kindOf n = some .local)
    (hsu : ∀ (a : Addr) (oe : Obj) (cls : Value) (d : Option Addr) (pn : List (Addr × Obj)), Zc cls d oe → (∃ vs, oe.data = .fields vs) → ∀ c k b, sub c c' = true → cls = .ref (C.cad c) → d = some b → JB C (some (i, a, k, b)) WF (X.suite a ((a, oe) :: pn)) (b₀ :: suite) (s c k)) (r : Clauses X hds l) :
    Clauses X (.ExceptHandler (some (.Name x np)) (some n) (b₀ :: suite) pos' :: hds) ((.ref (C.cad c'), some i, tsOf C sub c' (some i) s) :: l) :=
  .named hc hi hln (fun a oe cls d pn hz hf => ⟨fun pins st σ H D I ⟨c, k, b, h1, h2, h3, h4⟩ => (hsu a oe cls d pn hz hf c k b h1 h2 h3).run pins st σ H D I h4⟩) r
end
end PM

set_option Elab.async false
set_option linter.all false
set_option maxRecDepth 100000
set_option autoImplicit false
namespace PM
open PySem PySem.Spec PyProof.Rows L2

/-! ## what the text's forms say -/
def isStar : Expr → Bool | .Starred _ _ => true | _ => false
def isSetD : Expr → Bool | .Set _ _ _ => true | _ => false
def isComp : Expr → Bool | .ListComp _ _ _ _ => true | .SetComp _ _ _ _ => true | .DictComp _ _ _ _ _ => true | _ => false
def isTupD : Expr → Bool | .Tuple _ _ _ => true | _ => false
def isLstD : Expr → Bool | .List _ _ => true | _ => false
def isSlc : Expr → Bool | .Slice _ _ _ _ => true | _ => false
def plainBase : Expr → Bool | .Name _ _ => true | .Attribute _ _ _ => true | .Subscript _ _ _ => true | _ => false
def plainTest : Expr → Bool | .UnaryOp .Not _ _ => false | .BoolOp _ _ _ => false | .IfExp _ _ _ _ => false | .Compare _ _ _ _ => false | _ => true
theorem star_cons {a : Expr} {es : List Expr} {env : Env} (h : isStar a = false) : starEach (a :: es) env = (false, eval a env) :: starEach es env := by
  cases a <;> first | rfl | (simp [isStar] at h)
theorem star_any {pos : Pos} {env : Env} : ∀ {es : List Expr}, es.all (fun a => !isStar a) = true → (backTo pos (starEach es env)).any (·.1) = false
  | [], _ => rfl
  | a :: es, h => by
    simp only [List.all_cons, Bool.and_eq_true, Bool.not_eq_true'] at h
    rw [star_cons h.1]
    have := star_any (pos := pos) (env := env) h.2
    unfold backTo at this ⊢
    simp only [List.map_cons, List.any_cons, Bool.false_or]
    exact this
theorem star_map {env : Env} : ∀ {es : List Expr}, es.all (fun a => !isStar a) = true → starEach es env = es.map fun a => (false, eval a env)
  | [], _ => rfl
  | a :: es, h => by
    simp only [List.all_cons, Bool.and_eq_true, Bool.not_eq_true'] at h
    rw [star_cons h.1, star_map h.2]; rfl
theorem kw_all {pos : Pos} {env : Env} : ∀ {ks : List Keyword}, ks.all (fun k => k.arg.isSome) = true → (backToKw pos (keywordEach ks env)).all (·.1.isSome) = true ∧ (backToKw pos (keywordEach ks env)).any (·.1.isNone) = false ∧ (backToKw pos (keywordEach ks env)).filterMap (·.1) = ks.filterMap (·.arg)
  | [], _ => ⟨rfl, rfl, rfl⟩
  | ⟨n, v, p⟩ :: ks, h => by
    simp only [List.all_cons, Bool.and_eq_true] at h
    obtain ⟨h1, h2, h3⟩ := kw_all (pos := pos) (env := env) h.2
    obtain ⟨y, rfl⟩ := Option.isSome_iff_exists.mp h.1
    unfold backToKw at h1 h2 h3 ⊢
    simp only [keywordEach, List.map_cons, List.all_cons, List.any_cons, List.filterMap_cons, Option.isSome_some, Option.isNone_some, Bool.true_and, Bool.false_or]
    exact ⟨h1, h2, by rw [h3]⟩
theorem mark_no {op : CmpOp} {b : Expr} (h : isSetD b = false) : behindInMarks op b = false := by
  cases b <;> first | rfl | (simp [isSetD] at h)
theorem swap_no {a : Expr} {t : Option Expr} {l : Nat} {env : Env} (h : isComp a = false) : swapsWith a t l env = pure false := by
  cases a <;> first | rfl | (simp [isComp] at h)
theorem stores_no {tg a : Expr} {env : Env} (h : (isTupD tg || isLstD tg) = false ∨ isTupD a = false) : swappedStores [tg] a env = pure none := by
  rcases h with h | h
  · cases tg <;> first | rfl | (simp [isTupD, isLstD] at h)
  · cases tg <;> first | rfl | (cases a <;> first | rfl | (simp [isTupD] at h))
theorem assign_one {tg : Expr} {env : Env} (h : isStar tg = false) : (assignEach [tg] env).map (·.2) = [assign tg env] := by
  cases tg <;> first | rfl | (simp [isStar] at h)
theorem assign_cons {tg : Expr} {es : List Expr} {env : Env} (h : isStar tg = false) : (assignEach (tg :: es) env).map (·.2) = assign tg env :: (assignEach es env).map (·.2) := by
  cases tg <;> first | rfl | (simp [isStar] at h)
theorem assign_len {env : Env} : ∀ {es : List Expr}, es.all (fun a => !isStar a) = true → (assignEach es env).length = es.length ∧ (assignEach es env).findIdx? (·.1) = none
  | [], _ => ⟨rfl, rfl⟩
  | a :: es, h => by
    simp only [List.all_cons, Bool.and_eq_true, Bool.not_eq_true'] at h
    obtain ⟨h1, h2⟩ := assign_len (env := env) h.2
    have : assignEach (a :: es) env = (false, assign a env) :: assignEach es env := by
      obtain ⟨ha, _⟩ := h
      cases a <;> first | rfl | (simp [isStar] at ha)
    rw [this]
    refine ⟨by simp [h1], ?_⟩
    rw [List.findIdx?_cons]
    simp [h2]
theorem fold_no {iter : Expr} {env : Env} (h : isSetD iter = false) : ∀ x, foldedSetIterable iter env x = pure x := by
  intro x
  cases iter <;> first | rfl | (simp [isSetD] at h)
theorem ix_plain {b : Expr} (h : isSlc b = false) : PlainIx b := by
  intro o i
  cases b <;> first | rfl | (simp [isSlc] at h)
theorem base_plain {o : Expr} {f : Str} {env : Env} {wh : Sem Value} (h : plainBase o = true) : attributeBase o f env wh = wh := by
  cases o <;> first | rfl | (simp [plainBase] at h)
theorem test_plain {a : Expr} {env : Env} (h : plainTest a = true) : ∀ whole, isTrue a env whole = (do let v ← whole; standAt a.pos; holding [v] (truthy v)) := by
  intro whole
  cases a with
  | UnaryOp op _ _ => cases op <;> first | rfl | (simp [plainTest] at h)
  | BoolOp _ _ _ => simp [plainTest] at h
  | IfExp _ _ _ _ => simp [plainTest] at h
  | Compare _ _ _ _ => simp [plainTest] at h
  | _ => rfl
theorem sub_assign {o i : Expr} {tpos : Pos} {env : Env} (h : isSlc i = false) : ∀ v, assign (.Subscript o i tpos) env v = (do
      let ov ← holding [v] (eval o env)
      let iv ← holding [v, ov] (eval i env)
      standAt tpos
      holding [v, ov, iv] (setItem ov iv v)
      release [v, ov, iv] []) := by
  intro v
  cases i <;> first | rfl | (simp [isSlc] at h)
/-- a, b = x, y: are the two stored as names -/
def swNames (sc : Scope) (ts : List Expr) : List Str := ts.filterMap fun
    | .Name id pos => if sc.names.lookup id == some .local && pos.line == (ts.head?.map (·.pos.line)).getD 0 then some id else none
    | _ => none
def swC (sc : Scope) (ts vs : List Expr) : Option (Option (List Str)) :=
  if (!(ts.length == 2 || ts.length == 3) || vs.length != ts.length) = true then some none else
  if vs.any isStar = true then some none else
  if ((swNames sc ts).length != ts.length || (swNames sc ts).eraseDups.length != (swNames sc ts).length) = true then some none else
  if vs.all (foldedForSure 8) = true then some none else
  if vs.all (constantsAlone 8) = true then none else some (some (swNames sc ts))
theorem sw_ok {env : Env} {ts vs : List Expr} {k k2 : Nat} {p p2 : Pos} {r : Option (List Str)} (hk : env.scope.kind = .function) (h : swC env.scope ts vs = some r) : swappedStores [.Tuple ts k p] (.Tuple vs k2 p2) env = pure r := by
  have hb : env.blockKind = .function := by unfold Env.blockKind; rw [hk]; rfl
  unfold swC at h
  unfold swappedStores
  simp only [hb, show (ScopeKind.function != ScopeKind.function) = false from by decide, Bool.or_false]
  by_cases c1 : (!(ts.length == 2 || ts.length == 3) || vs.length != ts.length) = true
  · rw [if_pos c1] at h; cases h; exact if_pos c1
  rw [if_neg c1] at h
  refine (if_neg c1).trans ?_
  by_cases c2 : vs.any isStar = true
  · rw [if_pos c2] at h; cases h; exact if_pos c2
  rw [if_neg c2] at h
  refine (if_neg c2).trans ?_
  by_cases c3 : ((swNames env.scope ts).length != ts.length || (swNames env.scope ts).eraseDups.length != (swNames env.scope ts).length) = true
  · rw [if_pos c3] at h; cases h; exact if_pos c3
  rw [if_neg c3] at h
  refine (if_neg c3).trans ?_
  by_cases c4 : vs.all (foldedForSure 8) = true
  · rw [if_pos c4] at h; cases h; exact if_pos c4
  rw [if_neg c4] at h
  refine (if_neg c4).trans ?_
  by_cases c5 : vs.all (constantsAlone 8) = true
  · rw [if_pos c5] at h; cases h
  rw [if_neg c5] at h
  cases h
  exact if_neg c5
end PM

set_option Elab.async false
set_option linter.all false
set_option maxRecDepth 100000
set_option autoImplicit false
namespace PM
open PySem PySem.Spec PyProof.Rows L2

/-! ## the text turned into combinators -/
structure Ent where
  nm : Str
  n : Nat
  ks : List Str
  sem : List U → List U → M U
structure Tab where
  ents : List Ent
  con : List (Str × U)
  errs : List (Str × Nat × List Nat)
  bis : List Str
  flds : List Str
  sub : Nat → Nat → Bool
  fuel : Nat
def slot (N : List Str) (sc : Scope) (x : Str) : Option Nat := match sc.names.lookup x with
  | some .local => N.idxOf? x
  | some .cell => N.idxOf? x
  | some .free => N.idxOf? x
  | _ => none
def slotS (N : List Str) (sc : Scope) (x : Str) : Option Nat := match sc.names.lookup x with
  | some .local => N.idxOf? x
  | some .cell => N.idxOf? x
  | _ => none
def isLoc (sc : Scope) (x : Str) : Bool := match sc.names.lookup x with | some .local => true | _ => false
def glob (sc : Scope) (x : Str) : Bool := match sc.names.lookup x with | some .globalImplicit => true | _ => false
def nmOk (x : Str) : Bool := !(x == ("__debug__" : Str)) && !(x == ("__classdict__" : Str)) && !(x == ("__name__" : Str))
def biOf (x : Str) : Option (List U → Op U) :=
  if x = "len" then some uLen else if x = "abs" then some uAbs else if x = "max" then some uMax else if x = "min" then some uMin else if x = "sum" then some uSum else
  if x = "all" then some uAll else if x = "any" then some uAny else if x = "sorted" then some uSorted else if x = "divmod" then some uDivmod else none
def tyOf (x : Str) : Option (List U → Op U) :=
  if x = "int" then some uInt else if x = "list" then some uList else if x = "tuple" then some uTuple else if x = "dict" then some uDict else none
def tyNm (x : Str) : Option Ty :=
  if x = "int" then some .int else if x = "bool" then some .bool else if x = "str" then some .str else if x = "list" then some .list else if x = "tuple" then some .tuple else if x = "dict" then some .dict else none
def meOf (x : Str) (k : Nat) : Option (U → List U → Op U) :=
  if x = "append" ∧ k = 1 then some uAppend else if x = "extend" ∧ k = 1 then some uExtend else if x = "insert" ∧ k = 2 then some uInsert else if x = "pop" ∧ k = 1 then some uPopAt else none
def ownOf (N : List Str) (scope : Scope) : List (Str × Nat) := scope.names.filterMap fun p => match p.2 with
  | .local => (N.idxOf? p.1).map fun i => (p.1, i)
  | .cell => (N.idxOf? p.1).map fun i => (p.1, i)
  | _ => none
def entOf (tb : Tab) (x : Str) (n : Nat) (ks : List Str) : Option Ent := tb.ents.find? fun e => e.nm == x && e.n == n && e.ks == ks
mutual
def trE (tb : Tab) (N : List Str) : Nat → Scope → Expr → Option E
  | 0, _, _ => none
  | n + 1, sc, e => match e with
    | .Constant (.int i) _ _ => some (eC (.int i))
    | .Constant (.bool b) _ _ => some (eC (.bl b))
    | .Constant (.str s) _ _ => some (eC (.str s))
    | .Constant .none _ _ => some (eC .non)
    | .Name x _ => if nmOk x = true then (match slot N sc x with | some i => some (eVar i) | none => if glob sc x = true then (tb.con.lookup x).map eC else none) else none
    | .BinOp a op b _ => (binOf op).bind fun f => (trE tb N n sc a).bind fun ta => (trE tb N n sc b).bind fun tc => some (eBin f ta tc)
    | .UnaryOp .USub a _ => (trE tb N n sc a).bind fun ta => some (eUn uNeg ta)
    | .UnaryOp .Not a _ => (trE tb N n sc a).bind fun ta => some (eNo ta)
    | .BoolOp _ [a] _ => trE tb N n sc a
    | .BoolOp .And (a :: b :: r) p => (trE tb N n sc a).bind fun ta => (trE tb N n sc (.BoolOp .And (b :: r) p)).bind fun tr => some (eAnd ta tr)
    | .BoolOp .Or (a :: b :: r) p => (trE tb N n sc a).bind fun ta => (trE tb N n sc (.BoolOp .Or (b :: r) p)).bind fun tr => some (eOr ta tr)
    | .Compare a [op] [b] _ => if isSetD b = true then none else (cmpOf op).bind fun f => (trE tb N n sc a).bind fun ta => (trE tb N n sc b).bind fun tc => some (eBin f ta tc)
    | .Compare a [op, op'] [b, c] _ => if isSetD c = true then none else (cmpOf op).bind fun f => (cmpOf op').bind fun f' => (trE tb N n sc a).bind fun ta => (trE tb N n sc b).bind fun tc => (trE tb N n sc c).bind fun td => some (eChain f f' ta tc td)
    | .IfExp c a b _ => (trT tb N n sc c).bind fun tc => (trE tb N n sc a).bind fun ta => (trE tb N n sc b).bind fun td => some (eIf tc ta td)
    | .List es _ => (trA tb N n sc es).bind fun ta => some (eN uLst ta)
    | .Tuple es _ _ => (trA tb N n sc es).bind fun ta => some (eN uTup ta)
    | .Dict [] [] _ => some eDct0
    | .Subscript a (.Slice lo hi none _) _ => (trE tb N n sc a).bind fun ta => (trO tb N n sc lo).bind fun tl => (trO tb N n sc hi).bind fun th => some (eSl uSl ta tl th)
    | .Subscript a b _ => if isSlc b = true then none else (trE tb N n sc a).bind fun ta => (trE tb N n sc b).bind fun tc => some (eBin uIdx ta tc)
    | .ListComp elt [⟨tg, it, ifs, 0⟩] scope _ => if blkC N sc scope (ownOf N scope) = true ∧ isSetD it = false then
        (trI tb N n sc tg it).bind fun ti => (trG N n scope tg).bind fun tg' => (trF tb N n (relS scope sc) ifs).bind fun tt => (trE tb N n (relS scope sc) elt).bind fun te =>
          if tg'.2.all (fun i => decide (i ∈ (ownOf N scope).map (·.2))) = true then some (eLc ti tg'.1 tt te ((ownOf N scope).map (·.2))) else none
        else none
    | .Call (.Name x _) args kws _ => if nmOk x = true ∧ glob sc x = true then
        if x ∈ tb.bis then
          if x = "isinstance" then (match args, kws with
            | [a, .Name y _], [] => if nmOk y = true ∧ glob sc y = true ∧ y ∈ tb.bis then (tyNm y).bind fun T => (trE tb N n sc a).bind fun ta => some (eUn (uIsI [T]) ta) else none
            | [a, .Tuple [.Name y _, .Name z _] _ _], [] => if nmOk y = true ∧ glob sc y = true ∧ y ∈ tb.bis ∧ nmOk z = true ∧ glob sc z = true ∧ z ∈ tb.bis then (tyNm y).bind fun T => (tyNm z).bind fun T' => (trE tb N n sc a).bind fun ta => some (eUn (uIsI [T, T']) ta) else none
            | _, _ => none)
          else (match args, kws with
            | a :: es, [] => (match biOf x with
              | some f => (trA tb N n sc (a :: es)).bind fun ta => some (eN f ta)
              | none => (tyOf x).bind fun f => (trA tb N n sc (a :: es)).bind fun ta => some (eN f ta))
            | _, _ => none)
        else if kws.all (fun k => k.arg.isSome) = true then
          (entOf tb x args.length (kws.filterMap (·.arg))).bind fun en => (trA tb N n sc args).bind fun ta => (trK tb N n sc kws).bind fun tk => some (eG en.n en.ks.length en.sem ta tk)
        else none
      else none
    | .Call (.Attribute o m ap) (a :: es) [] cp => if plainBase o = true ∧ (ap.endLine == cp.line) = true then
        (meOf m (es.length + 1)).bind fun f => (trE tb N n sc o).bind fun to => (trA tb N n sc (a :: es)).bind fun ta => some (eMe isLstU f to ta) else none
    | .Call (.Attribute o m ap) [] [] cp => if plainBase o = true ∧ (ap.endLine == cp.line) = true ∧ m = "pop" then (trE tb N n sc o).bind fun to => some (eMe isLstU uPop0 to aNil) else none
    | _ => none
def trT (tb : Tab) (N : List Str) : Nat → Scope → Expr → Option T
  | 0, _, _ => none
  | n + 1, sc, e => match e with
    | .UnaryOp .Not a _ => (trT tb N n sc a).bind fun ta => some (tNo ta)
    | .BoolOp op es p => trW tb N n sc op es p
    | .Compare a [op] [b] _ => if isSetD b = true then none else (cmpOf op).bind fun f => (trE tb N n sc a).bind fun ta => (trE tb N n sc b).bind fun tc => some (tE (eBin f ta tc))
    | .Compare a [op, op'] [b, c] _ => if isSetD c = true then none else (cmpOf op).bind fun f => (cmpOf op').bind fun f' => (trE tb N n sc a).bind fun ta => (trE tb N n sc b).bind fun tc => (trE tb N n sc c).bind fun td => some (tE (eChain f f' ta tc td))
    | a => if plainTest a = true then (trE tb N n sc a).bind fun ta => some (tE ta) else none
def trW (tb : Tab) (N : List Str) : Nat → Scope → BoolOp → List Expr → Pos → Option T
  | 0, _, _, _, _ => none
  | n + 1, sc, op, es, p => match op, es with
    | _, [a] => trT tb N n sc a
    | .And, a :: b :: r => (trT tb N n sc a).bind fun ta => (trW tb N n sc .And (b :: r) p).bind fun tr => some (tAn ta tr)
    | .Or, a :: b :: r => (trT tb N n sc a).bind fun ta => (trW tb N n sc .Or (b :: r) p).bind fun tr => some (tOrr ta tr)
    | _, _ => none
def trA (tb : Tab) (N : List Str) : Nat → Scope → List Expr → Option A
  | 0, _, _ => none
  | n + 1, sc, es => match es with
    | [] => some aNil
    | a :: r => if isStar a = true then none else (trE tb N n sc a).bind fun ta => (trA tb N n sc r).bind fun tr => some (aCons ta tr)
def trK (tb : Tab) (N : List Str) : Nat → Scope → List Keyword → Option A
  | 0, _, _ => none
  | n + 1, sc, es => match es with
    | [] => some aNil
    | ⟨_, a, _⟩ :: r => (trE tb N n sc a).bind fun ta => (trK tb N n sc r).bind fun tr => some (aCons ta tr)
def trO (tb : Tab) (N : List Str) : Nat → Scope → Option Expr → Option PT'
  | 0, _, _ => none
  | n + 1, sc, o => match o with
    | none => some pNo
    | some a => (trE tb N n sc a).bind fun ta => some (pSo ta)
def trF (tb : Tab) (N : List Str) : Nat → Scope → List Expr → Option T
  | 0, _, _ => none
  | n + 1, sc, es => match es with
    | [] => some tYs
    | [a] => trT tb N n sc a
    | _ => none
def trI (tb : Tab) (N : List Str) : Nat → Scope → Expr → Expr → Option I
  | 0, _, _, _ => none
  | n + 1, sc, tg, e => match e with
    | .Call (.Name x p) [a] [] q => if nmOk x = true ∧ glob sc x = true ∧ x ∈ tb.bis ∧ isStar a = false then
        if x = "range" then (trA tb N n sc [a]).bind fun ta => some (iRg1 ta)
        else if x = "enumerate" then (if isTupD tg = true then (trA tb N n sc [a]).bind fun ta => some (iEnm ta) else none)
        else if x = "reversed" then (trE tb N n sc a).bind fun ta => some (iRv ta)
        else (trE tb N n sc (.Call (.Name x p) [a] [] q)).bind fun ta => some (iSeq ta)
      else (trE tb N n sc (.Call (.Name x p) [a] [] q)).bind fun ta => some (iSeq ta)
    | .Call (.Name x p) [a, b] [] q => if nmOk x = true ∧ glob sc x = true ∧ x ∈ tb.bis ∧ isStar a = false ∧ isStar b = false then
        if x = "range" then (trA tb N n sc [a, b]).bind fun ta => some (iRg2 ta)
        else if x = "zip" then (if isTupD tg = true then (trA tb N n sc [a, b]).bind fun ta => some (iZp ta) else none)
        else (trE tb N n sc (.Call (.Name x p) [a, b] [] q)).bind fun ta => some (iSeq ta)
      else (trE tb N n sc (.Call (.Name x p) [a, b] [] q)).bind fun ta => some (iSeq ta)
    | a => (trE tb N n sc a).bind fun ta => some (iSeq ta)
def trG (N : List Str) : Nat → Scope → Expr → Option (Tg × List Nat)
  | 0, _, _ => none
  | n + 1, sc, e => match e with
    | .Name x _ => (slotS N sc x).bind fun i => some (gN i, [i])
    | .Tuple es _ _ => if es.all (fun a => !isStar a) = true then (trGs N n sc es).bind fun ts => some (gT es.length ts.1, ts.2) else none
    | _ => none
def trGs (N : List Str) : Nat → Scope → List Expr → Option (Tgs × List Nat)
  | 0, _, _ => none
  | n + 1, sc, es => match es with
    | [] => some (gsN, [])
    | a :: r => if isStar a = true then none else (trG N n sc a).bind fun t => (trGs N n sc r).bind fun ts => some (gsC t.1 ts.1, t.2 ++ ts.2)
end
/-! suites of except -/
def trQ (tb : Tab) (N : List Str) (er : Option Str) : Nat → Scope → Expr → Option (Nat → E)
  | 0, _, _ => none
  | n + 1, sc, e => match e with
    | .Constant (.int i) _ _ => some fun _ => eC (.int i)
    | .Constant (.bool b) _ _ => some fun _ => eC (.bl b)
    | .Constant (.str s) _ _ => some fun _ => eC (.str s)
    | .Constant .none _ _ => some fun _ => eC .non
    | .Tuple [a, b] _ _ => if isStar a = true ∨ isStar b = true then none else (trQ tb N er n sc a).bind fun ta => (trQ tb N er n sc b).bind fun tc => some fun k => eN uTup (aCons (ta k) (aCons (tc k) aNil))
    | .Attribute (.Name x _) f _ => if nmOk x = true ∧ er = some x ∧ (sc.names.lookup x == some .local) = true then (tb.flds.idxOf? f).bind fun i => some fun k => eXat k i else none
    | _ => none
def trH (tb : Tab) (N : List Str) (n : Nat) (sc : Scope) : List ExceptHandler → Option (List Hd)
  | [] => some []
  | .ExceptHandler (some (.Name x _)) none [.Return (some e) _] _ :: r => if nmOk x = true ∧ glob sc x = true then
      ((tb.errs.lookup x).bind fun p => (trQ tb N none n sc e).bind fun te => (trH tb N n sc r).bind fun hs => some ((p.1, none, fun _ k => sRt (te k)) :: hs)) else none
  | .ExceptHandler (some (.Name x _)) (some y) [.Return (some e) _] _ :: r => if nmOk x = true ∧ glob sc x = true ∧ isLoc sc y = true then
      ((tb.errs.lookup x).bind fun p => (N.idxOf? y).bind fun i => (trQ tb N (some y) n sc e).bind fun te => (trH tb N n sc r).bind fun hs => some ((p.1, some i, fun _ k => sRt (te k)) :: hs)) else none
  | _ => none
def swapB (sc : Scope) (y : Str) (py : Pos) (a : Expr) : Bool := match a with
  | .ListComp _ _ s p => isLoc sc y && py.line == p.line && !(s.names.any fun (n, k) => n == y && (k == .local || k == .cell))
  | _ => false
mutual
def trS (tb : Tab) (N : List Str) : Nat → Scope → Stmt → Option S
  | 0, _, _ => none
  | n + 1, sc, st => match st with
    | .Pass _ => some sNx
    | .Break _ => some sBk
    | .Continue _ => some sCt
    | .Return none _ => some sRtN
    | .Return (some e) _ => (trE tb N n sc e).bind fun te => some (sRt te)
    | .Expr e _ => if isComp e = true then none else (trE tb N n sc e).bind fun te => some (sEx te)
    | .If c a b _ => (trT tb N n sc c).bind fun tc => (trB tb N n sc a).bind fun ta => (trB tb N n sc b).bind fun tc' => some (sIf tc ta tc')
    | .For tg it body [] _ => if isSetD it = true then none else (trI tb N n sc tg it).bind fun ti => (trG N n sc tg).bind fun t => (trB tb N n sc body).bind fun s => some (sFor ti t.1 s)
    | .While c body [] _ => (trT tb N n sc c).bind fun tc => (trB tb N n sc body).bind fun s => some (sWh tb.fuel tc s)
    | .Assign [.Subscript o i _] e _ => if isComp e = true ∨ isSlc i = true then none else (trE tb N n sc e).bind fun te => (trE tb N n sc o).bind fun to => (trE tb N n sc i).bind fun ti => some (sSub te to ti)
    | .Assign [.Tuple ts _ _] (.Tuple vs _ _) _ => (match swC sc ts vs with
        | some none => if ts.all (fun a => !isStar a) = true then (trA tb N n sc vs).bind fun ta => (trGs N n sc ts).bind fun t => some (sAs (eN uTup ta) (gT ts.length t.1)) else none
        | some (some [x, y, z]) => (match ts, vs with
          | [.Name x' _, .Name y' _, .Name z' _], [a, b, c] => if x' = x ∧ y' = y ∧ z' = z ∧ isLoc sc x = true ∧ isLoc sc y = true ∧ isLoc sc z = true then
              (N.idxOf? x).bind fun i => (N.idxOf? y).bind fun j => (N.idxOf? z).bind fun l => if i = j ∨ i = l ∨ j = l then none else (trA tb N n sc [a, b, c]).bind fun ta => some (sPar3 i j l ta) else none
          | _, _ => none)
        | some (some [x, y]) => (match ts, vs with
          | [.Name x' _, .Name y' _], [a, b] => if x' = x ∧ y' = y ∧ isLoc sc x = true ∧ isLoc sc y = true then
              (N.idxOf? x).bind fun i => (N.idxOf? y).bind fun j => if i = j then none else (trA tb N n sc [a, b]).bind fun ta => some (sPar i j ta) else none
          | _, _ => none)
        | _ => none)
    | .Assign [.Name y py] e _ => if nmOk y = true then (trE tb N n sc e).bind fun te => (slotS N sc y).bind fun i => if isComp e = true then (match e with | .ListComp _ [⟨_, _, _, 0⟩] _ _ => if swapB sc y py e = true then some (sAs te (gN i)) else none | _ => none) else some (sAs te (gN i)) else none
    | .Assign [tg] e _ => if isComp e = true ∨ isStar tg = true ∨ isTupD e = true then none else (trE tb N n sc e).bind fun te => (trG N n sc tg).bind fun t => some (sAs te t.1)
    | .Raise (some (.Call (.Name x _) (a :: es) [] _)) none _ => if nmOk x = true ∧ glob sc x = true then
        (tb.errs.lookup x).bind fun p => if p.2.length = es.length + 1 then (trA tb N n sc (a :: es)).bind fun ta => some (sRz p.1 p.2 ta) else none else none
    | .Try body (h :: hs) [] [] _ => (trB tb N n sc body).bind fun s => (trH tb N n sc (h :: hs)).bind fun l => some (sTry tb.sub s l)
    | _ => none
def trB (tb : Tab) (N : List Str) : Nat → Scope → List Stmt → Option S
  | 0, _, _ => none
  | n + 1, sc, sts => match sts with
    | [] => some sNx
    | [s] => trS tb N n sc s
    | s :: r => (trS tb N n sc s).bind fun a => (trB tb N n sc r).bind fun b => some (sSeq a b)
end
end PM

set_option Elab.async false
set_option linter.all false
set_option maxRecDepth 100000
set_option autoImplicit false
namespace PM
open PySem PySem.Spec PyProof.Rows L2

structure TabOk (tb : Tab) (P : Program) (w : World) (K : PySem.W.Frag) (mg : Str → Option Value) (base : Heap) (C : Names) (k : Nat) : Prop where
  k2 : 2 ≤ k
  ent : ∀ en, en ∈ tb.ents → ∃ f, mg en.nm = some (.ref f) ∧ PySem.W.keepIn K (.ref f) = true ∧
    ∀ (X : Cx) (W : WX), X.prog = P → X.w = w → X.K = K → X.mg = mg → X.base = base → Room k X.A → Takes X W → CallSem C W X f en.n en.ks en.sem
  con : ∀ x u, tb.con.lookup x = some u → ∃ v val, mg x = some val ∧ RelV v val ∧ ∀ m, RV m u v
  bis : ∀ x, x ∈ tb.bis → mg x = none
  errs : ∀ x p, tb.errs.lookup x = some p → mg x = some (.ref (C.cad p.1)) ∧ (p.2 ≠ [] → ∃ fI fd ps, OexC K (C.cad p.1) ∧ PySem.W.findIn K (.ref (C.cad p.1)) "__init__" = some (some (.ref fI)) ∧ PySem.W.typeIn K (.ref fI) = some (.type "function") ∧
    FnOk P w K mg base (L2.CX P w) 1 fI fd ps (spOex (C.cad p.1) (p.2.map C.fld)) ∧ Binds K fd ps [])
  fld : ∀ f i, tb.flds.idxOf? f = some i → C.fld i = f
  inj : ∀ p q, C.fld p = C.fld q → p = q
  sub : ∀ c c', PySem.W.exmOne K (.ref (C.cad c)) (.ref (C.cad c')) = some (tb.sub c c')
  xf : ∀ c, XfC K (C.cad c)
  xno : ∀ c f i, tb.flds.idxOf? f = some i → PySem.W.findIn K (.ref (C.cad c)) f = some none
structure XOk (P : Program) (w : World) (K : PySem.W.Frag) (mg : Str → Option Value) (base : Heap) (k : Nat) (N : List Str) (sc st : Scope) (W : WX) (X : Cx) : Prop where
  hP : X.prog = P
  hw : X.w = w
  hK : X.K = K
  hm : X.mg = mg
  hb : X.base = base
  hN : X.N = N
  nd : N.Nodup
  hsc : X.env.scope = sc
  kind : sc.kind = .function
  room : Room k X.A
  calm : X.calm = true
  tk : Takes X W
  fn : ∀ x, L2.Loc st x → L2.Loc X.env.scope x ∧ (X.fn x = true ∨ X.env.scope.names.lookup x = some .local)
theorem idx_get {N : List Str} {x : Str} {i : Nat} (h : N.idxOf? x = some i) : N[i]? = some x := by
  rw [List.idxOf?_eq_some_iff] at h
  obtain ⟨hi, h1, _⟩ := h
  rw [List.getElem?_eq_getElem hi]
  have : N[i] = x := by simpa using h1
  rw [this]
theorem slot_ok {N : List Str} {sc : Scope} {x : Str} {i : Nat} (h : slot N sc x = some i) : N[i]? = some x ∧ Vis sc x := by
  unfold slot at h
  split at h
  · rename_i e; exact ⟨idx_get h, .inl e⟩
  · rename_i e; exact ⟨idx_get h, .inr (.inl e)⟩
  · rename_i e; exact ⟨idx_get h, .inr (.inr e)⟩
  · cases h
theorem slotS_ok {N : List Str} {sc : Scope} {x : Str} {i : Nat} (h : slotS N sc x = some i) : N[i]? = some x ∧ L2.Loc sc x := by
  unfold slotS at h
  split at h
  · rename_i e; exact ⟨idx_get h, .inl e⟩
  · rename_i e; exact ⟨idx_get h, .inr e⟩
  · cases h
theorem glob_ok {sc : Scope} {x : Str} (h : glob sc x = true) : sc.names.lookup x = some .globalImplicit := by
  unfold glob at h
  split at h
  · assumption
  · cases h
theorem isLoc_ok {sc : Scope} {x : Str} (h : isLoc sc x = true) : sc.names.lookup x = some .local := by
  unfold isLoc at h
  split at h
  · assumption
  · cases h
theorem nm_ok {x : Str} (h : nmOk x = true) : (x == ("__debug__" : Str)) = false ∧ (x == ("__classdict__" : Str)) = false ∧ x ≠ "__name__" := by
  unfold nmOk at h
  simp only [Bool.and_eq_true, Bool.not_eq_true'] at h
  exact ⟨h.1.1, h.1.2, fun e => by rw [e] at h; simp at h⟩
theorem Gl.of {X : Cx} {sc : Scope} {x : Str} (h1 : X.env.scope = sc) (h : sc.names.lookup x = some .globalImplicit) : Gl X x := by
  unfold Gl Env.kindOf; rw [h1]; exact h
theorem b_len : bootBuiltins "len" = some (.builtin "len") := by decide +kernel
theorem b_sum : bootBuiltins "sum" = some (.builtin "sum") := by decide +kernel
theorem b_all : bootBuiltins "all" = some (.builtin "all") := by decide +kernel
theorem b_any : bootBuiltins "any" = some (.builtin "any") := by decide +kernel
theorem ty_boot {y : Str} {T : Ty} (h : tyNm y = some T) : bootBuiltins y = some (.type T.name) := by
  unfold tyNm at h
  by_cases e : y = "int"
  · rw [if_pos e] at h; cases h; subst e; exact boot_int
  rw [if_neg e] at h; clear e
  by_cases e : y = "bool"
  · rw [if_pos e] at h; cases h; subst e; exact boot_bool
  rw [if_neg e] at h; clear e
  by_cases e : y = "str"
  · rw [if_pos e] at h; cases h; subst e; exact boot_str
  rw [if_neg e] at h; clear e
  by_cases e : y = "list"
  · rw [if_pos e] at h; cases h; subst e; exact boot_list
  rw [if_neg e] at h; clear e
  by_cases e : y = "tuple"
  · rw [if_pos e] at h; cases h; subst e; exact boot_tuple
  rw [if_neg e] at h; clear e
  by_cases e : y = "dict"
  · rw [if_pos e] at h; cases h; subst e; exact boot_dict
  rw [if_neg e] at h; clear e
  cases h
theorem bi_call {C : Names} {X : Cx} {x : Str} {f : List U → Op U} (hc : X.calm = true) (h : biOf x = some f) : ∃ id, bootBuiltins x = some (.builtin id) ∧ CallR X (.builtin id) (rdN C f) := by
  unfold biOf at h
  by_cases e : x = "len"
  · rw [if_pos e] at h; cases h; subst e; exact ⟨"len", b_len, len_ok⟩
  rw [if_neg e] at h; clear e
  by_cases e : x = "abs"
  · rw [if_pos e] at h; cases h; subst e; exact ⟨"abs", boot_abs, abs_ok⟩
  rw [if_neg e] at h; clear e
  by_cases e : x = "max"
  · rw [if_pos e] at h; cases h; subst e; exact ⟨"max", boot_max, max_ok hc⟩
  rw [if_neg e] at h; clear e
  by_cases e : x = "min"
  · rw [if_pos e] at h; cases h; subst e; exact ⟨"min", boot_min, min_ok hc⟩
  rw [if_neg e] at h; clear e
  by_cases e : x = "sum"
  · rw [if_pos e] at h; cases h; subst e; exact ⟨"sum", b_sum, sum_ok hc⟩
  rw [if_neg e] at h; clear e
  by_cases e : x = "all"
  · rw [if_pos e] at h; cases h; subst e; exact ⟨"all", b_all, all_ok hc⟩
  rw [if_neg e] at h; clear e
  by_cases e : x = "any"
  · rw [if_pos e] at h; cases h; subst e; exact ⟨"any", b_any, any_ok hc⟩
  rw [if_neg e] at h; clear e
  by_cases e : x = "sorted"
  · rw [if_pos e] at h; cases h; subst e; exact ⟨"sorted", boot_sorted, sorted_ok⟩
  rw [if_neg e] at h; clear e
  by_cases e : x = "divmod"
  · rw [if_pos e] at h; cases h; subst e; exact ⟨"divmod", boot_divmod, divmod_ok⟩
  rw [if_neg e] at h; clear e
  cases h
theorem ty_call {C : Names} {X : Cx} {x : Str} {f : List U → Op U} (hc : X.calm = true) (h : tyOf x = some f) : ∃ id, bootBuiltins x = some (.type id) ∧ CallR X (.type id) (rdN C f) := by
  unfold tyOf at h
  by_cases e : x = "int"
  · rw [if_pos e] at h; cases h; subst e; exact ⟨"int", boot_int, int_ok⟩
  rw [if_neg e] at h; clear e
  by_cases e : x = "list"
  · rw [if_pos e] at h; cases h; subst e; exact ⟨"list", boot_list, list_ok⟩
  rw [if_neg e] at h; clear e
  by_cases e : x = "tuple"
  · rw [if_pos e] at h; cases h; subst e; exact ⟨"tuple", boot_tuple, tuple_ok⟩
  rw [if_neg e] at h; clear e
  by_cases e : x = "dict"
  · rw [if_pos e] at h; cases h; subst e; exact ⟨"dict", boot_dict, dict_ok hc⟩
  rw [if_neg e] at h; clear e
  cases h
theorem own_ix {N : List Str} {scope : Scope} : ∀ p ∈ ownOf N scope, N[p.2]? = some p.1 := by
  intro p hp
  unfold ownOf at hp
  obtain ⟨q, _, h⟩ := List.mem_filterMap.mp hp
  split at h
  · simp only [Option.map_eq_some_iff] at h; obtain ⟨i, h1, rfl⟩ := h; exact idx_get h1
  · simp only [Option.map_eq_some_iff] at h; obtain ⟨i, h1, rfl⟩ := h; exact idx_get h1
  · cases h
theorem few_ok {a : Expr} {es : List Expr} {p : Pos} {env : Env} (hs : isStar a = false) (hs2 : es.all (fun a => !isStar a) = true) (h : es.length + 1 < 20) : ((backTo p (starEach (a :: es) env)).all (fun x => !x.1) && (backToKw p (keywordEach [] env)).all (fun x => x.1.isSome)
      && decide ((a :: es).length + ([] : List Keyword).length + (if ([] : List Keyword).isEmpty then 0 else 1) < 30)) = true := by
  have h1 : (backTo p (starEach (a :: es) env)).all (fun x => !x.1) = true := by
    rw [star_map (es := a :: es) (by simp [hs, hs2])]
    unfold backTo
    simp
  rw [h1]
  simp [keywordEach, backToKw]
  omega
theorem je_me {C : Names} {e : Option (Nat × Addr × Nat × Addr)} {W : WX} {X : Cx} {o a : Expr} {es : List Expr} {m : Str} {f : U → List U → Op U} {to : E} {ta : A} {ap cp : Pos} (hf : meOf m (es.length + 1) = some f) (ho : JE C e W X o to) (ha : JA C e W X (a :: es) ta)
    (hb : plainBase o = true) (hl : (ap.endLine == cp.line) = true) (hs : isStar a = false) (hs2 : es.all (fun a => !isStar a) = true) : JE C e W X (.Call (.Attribute o m ap) (a :: es) [] cp) (eMe isLstU f to ta) := by
  have b := base_plain (f := m) (env := X.env) (wh := eval o X.env) hb
  unfold meOf at hf
  repeat' split at hf
  · rename_i h; obtain ⟨rfl, _⟩ := h; cases hf
    exact (pe_bm PySem.F.plainAttrs_list PySem.F.slot_list_append PySem.F.type_list_append append_ok ho ha b (few_ok hs hs2 (by omega)) hl (star_cons hs) (star_any hs2)).imp fun _ _ _ h => me_rd (fun _ _ _ _ _ => isLst_ty _ _ _ _ _) h
  · rename_i h; obtain ⟨rfl, _⟩ := h; cases hf
    exact (pe_bm PySem.F.plainAttrs_list PySem.F.slot_list_extend PySem.F.type_list_extend extend_ok ho ha b (few_ok hs hs2 (by omega)) hl (star_cons hs) (star_any hs2)).imp fun _ _ _ h => me_rd (fun _ _ _ _ _ => isLst_ty _ _ _ _ _) h
  · rename_i h; obtain ⟨rfl, _⟩ := h; cases hf
    exact (pe_bm PySem.F.plainAttrs_list PySem.F.slot_list_insert PySem.F.type_list_insert insert_ok ho ha b (few_ok hs hs2 (by omega)) hl (star_cons hs) (star_any hs2)).imp fun _ _ _ h => me_rd (fun _ _ _ _ _ => isLst_ty _ _ _ _ _) h
  · rename_i h; obtain ⟨rfl, _⟩ := h; cases hf
    exact (pe_bm PySem.F.plainAttrs_list PySem.F.slot_list_pop PySem.F.type_list_pop popAt_ok ho ha b (few_ok hs hs2 (by omega)) hl (star_cons hs) (star_any hs2)).imp fun _ _ _ h => me_rd (fun _ _ _ _ _ => isLst_ty _ _ _ _ _) h
  · cases hf
end PM

set_option Elab.async false
set_option linter.all false
set_option maxRecDepth 100000
set_option autoImplicit false
namespace PM
open PySem PySem.Spec PyProof.Rows L2

section
variable {C : Names} {e : Option (Nat × Addr × Nat × Addr)} {W : WX} {X : Cx} {a b c : Expr} {ta tb tc : E} {pos p : Pos} {aa : A} {σ : L2.St} {H : Hp}
/-- a chain as a test -/
theorem jt_chain {op op' : CmpOp} {f f' : U → U → Op U} (ho : OpR X (compareOp op) (rd2 C f)) (ho' : OpR X (compareOp op') (rd2 C f')) (hf : ∀ u w g z g', f' u w g = some (z, g') → ∃ k, z = .bl k)
    (ha : JE C e W X a ta) (hb : JE C e W X b tb) (hc : JE C e W X c tc) (hm : lastMarks [op, op'] [b, c] = false) : JT C e W X (.Compare a [op, op'] [b, c] pos) (tE (eChain f f' ta tb tc)) :=
  (pt_chain ho ho' ha hb hc hm).imp fun σ H Q h => by
    have h2 := rd_tru (X := X) h
    refine rd_chain ?_
    obtain ⟨m, g, τ, hR, hS, hP⟩ := h2
    refine ⟨m, g, τ, hR, hS, ?_⟩
    have bl : ∀ u g2, eChain f f' ta tb tc τ g = .ok u g2 → ∃ k, u = .bl k := by
      intro u g2 h
      unfold eChain at h
      cases q1 : ta τ g with
      | ok x g1 =>
        simp only [q1, bnd] at h
        cases q2 : tb τ g1 with
        | ok y g3 =>
          simp only [q2] at h
          cases q3 : lift (f x y) g3 with
          | ok z g4 =>
            simp only [q3] at h
            cases z with
            | bl k => cases k with
              | true =>
                simp only at h
                cases q4 : tc τ g4 with
                | ok w g5 =>
                  simp only [q4, lift] at h
                  cases q5 : f' y w g5 with
                  | none => simp only [q5] at h; cases h
                  | some r => obtain ⟨r, g6⟩ := r; simp only [q5, Res.ok.injEq] at h; obtain ⟨rfl, _⟩ := h; exact hf _ _ _ _ _ q5
                | exc _ _ _ => simp only [q4] at h; cases h
                | stuck => simp only [q4] at h; cases h
              | false => simp only [Res.ok.injEq] at h; exact ⟨_, h.1.symm⟩
            | _ => simp only at h; cases h
          | exc _ _ _ => simp only [q3] at h; cases h
          | stuck => simp only [q3] at h; cases h
        | exc _ _ _ => simp only [q2] at h; cases h
        | stuck => simp only [q2] at h; cases h
      | exc _ _ _ => simp only [q1, bnd] at h; cases h
      | stuck => simp only [q1, bnd] at h; cases h
    cases q : eChain f f' ta tb tc τ g with
    | stuck => rw [q] at hP; exact hP
    | exc c d g1 => rw [q] at hP; exact hP
    | ok u g1 =>
      rw [q] at hP
      obtain ⟨k, rfl⟩ := bl _ _ q
      intro m' H' v x' r' rv
      obtain ⟨k', t', q'⟩ := hP m' H' v x' r' rv
      obtain rfl : v = .bl k := rv
      obtain rfl : k' = k := t'
      exact ⟨k', rfl, q'⟩
theorem ji_zip {tpos : Pos} {elts : List Expr} {kk : Nat} (hg : Gl X "zip") (hm : X.mg "zip" = none) (ha : JA C e W X [a, b] aa) (hs : starEach [a, b] X.env = (false, eval a X.env) :: starEach [b] X.env) (hpl : (backTo pos (starEach [b] X.env)).any (·.1) = false) :
    JI C e W X (.Tuple elts kk tpos) (.Call (.Name "zip" p) [a, b] [] pos) (iZp aa) := (pi_zip hg hm ha hs hpl).imp fun σ H R h => by
  obtain ⟨m, g, τ, hR, hS, hP⟩ := h
  refine ⟨m, g, τ, hR, hS, (Post.bnd (R := RVs) hP).imp ?_⟩
  rintro v H1 ⟨u, m1, g1, x1, R1, rv, P1⟩
  match u, rv, P1 with
  | [.obj n, .obj k], .cons r1 (.cons r2 .nil), P1 =>
    obtain ⟨q, hq, rfl⟩ := r1
    obtain ⟨q2, hq2, rfl⟩ := r2
    simp only at P1
    cases e1 : seqAt g1 n with
    | none => simp only [e1] at P1; exact P1.elim
    | some t => cases e2 : seqAt g1 k with
      | none => simp only [e1, e2] at P1; exact P1.elim
      | some t' =>
        obtain ⟨t, xs⟩ := t
        obtain ⟨t', ys⟩ := t'
        simp only [e1, e2] at P1
        cases t <;> cases t' <;> first
          | (simp only at P1
             obtain ⟨vs, rv', hl, _⟩ := R1.seq (K := X.K) hq e1
             obtain ⟨ws, rw', hl', _⟩ := R1.seq (K := X.K) hq2 e2
             exact ⟨q, q2, vs, ws, rfl, hl rfl, hl' rfl, P1.val R1 (ri_zip X.K hq hq2 rv' rw')⟩)
          | exact P1.elim
end
section
variable {tb : Tab} {P : Program} {w : World} {K : PySem.W.Frag} {mg : Str → Option Value} {base : Heap} {C : Names} {k : Nat} {N : List Str} {sc st scope : Scope} {W : WX} {X : Cx}
theorem XOk.blk (o : XOk P w K mg base k N sc st W X) (hk : scope.kind = .function) (s : Shared) (H : Hp) (Cc : Addr) (cl : List (Str × Addr)) (fp : List Addr) : XOk P w K mg base k N (relS scope sc) scope WF (X.blk s H scope (compEnvC scope cl Cc X.env) fp) := by
  have e : (compEnvC scope cl Cc X.env).scope = relS scope sc := by rw [← o.hsc]; rfl
  refine ⟨o.hP, o.hw, o.hK, o.hm, o.hb, o.hN, o.nd, e, hk, o.room, o.calm, takes0, fun x h => ?_⟩
  show L2.Loc (compEnvC scope cl Cc X.env).scope x ∧ ((scope.names.lookup x == some NameKind.cell) = true ∨ (compEnvC scope cl Cc X.env).scope.names.lookup x = some .local)
  rw [e]
  rcases h with h | h
  · have := lookup_relS_keep (sc := sc) (k := .local) (by decide) h
    exact ⟨.inl this, .inr this⟩
  · have := lookup_relS_keep (sc := sc) (k := .cell) (by decide) h
    exact ⟨.inr this, .inl (by rw [h]; rfl)⟩
theorem trA_star : ∀ (n : Nat) {es : List Expr} {t : A}, trA tb N n sc es = some t → es.all (fun a => !isStar a) = true
  | 0, _, _, h => by simp [trA] at h
  | n + 1, [], _, _ => rfl
  | n + 1, a :: r, _, h => by
    simp only [trA] at h
    split at h
    · cases h
    · rename_i hs
      simp only [Option.bind_eq_some_iff] at h
      obtain ⟨ta, h1, tr, h2, _⟩ := h
      simp only [List.all_cons, trA_star n h2, Bool.and_true, Bool.not_eq_true']
      simpa using hs
structure GoodE (tb : Tab) (P : Program) (w : World) (K : PySem.W.Frag) (mg : Str → Option Value) (base : Heap) (C : Names) (k n : Nat) : Prop where
  E : ∀ {N : List Str} {sc st : Scope} {W : WX} {X : Cx} {ex : Expr} {t : PM.E}, XOk P w K mg base k N sc st W X → trE tb N n sc ex = some t → JE C none W X ex t
  T : ∀ {N : List Str} {sc st : Scope} {W : WX} {X : Cx} {ex : Expr} {t : PM.T}, XOk P w K mg base k N sc st W X → trT tb N n sc ex = some t → JT C none W X ex t
  B : ∀ {N : List Str} {sc st : Scope} {W : WX} {X : Cx} {op : BoolOp} {es : List Expr} {p : Pos} {t : PM.T}, XOk P w K mg base k N sc st W X → trW tb N n sc op es p = some t → JW C none W X (.BoolOp op es p) t
  A : ∀ {N : List Str} {sc st : Scope} {W : WX} {X : Cx} {ex : List Expr} {t : PM.A}, XOk P w K mg base k N sc st W X → trA tb N n sc ex = some t → JA C none W X ex t
  Kw : ∀ {N : List Str} {sc st : Scope} {W : WX} {X : Cx} {ex : List Keyword} {t : PM.A}, XOk P w K mg base k N sc st W X → trK tb N n sc ex = some t → JK C none W X ex t
  O : ∀ {N : List Str} {sc st : Scope} {W : WX} {X : Cx} {ex : Option Expr} {t : PT'}, XOk P w K mg base k N sc st W X → trO tb N n sc ex = some t → JO C none W X ex t
  F : ∀ {N : List Str} {sc st : Scope} {X : Cx} {ex : List Expr} {t : PM.T}, XOk P w K mg base k N sc st WF X → trF tb N n sc ex = some t → PTs X ex (rdT C none WF t)
  I : ∀ {N : List Str} {sc st : Scope} {W : WX} {X : Cx} {tg ex : Expr} {t : PM.I}, XOk P w K mg base k N sc st W X → trI tb N n sc tg ex = some t → JI C none W X tg ex t
  G : ∀ {N : List Str} {sc st : Scope} {W : WX} {X : Cx} {ex : Expr} {t : Tg × List Nat}, XOk P w K mg base k N sc st W X → trG N n st ex = some t → JG C none X t.2 ex t.1
  Gs : ∀ {N : List Str} {sc st : Scope} {W : WX} {X : Cx} {ex : List Expr} {t : Tgs × List Nat}, XOk P w K mg base k N sc st W X → trGs N n st ex = some t → JGs C none X t.2 ex t.1
theorem good0 : GoodE tb P w K mg base C k 0 := by
  constructor <;> intros <;> rename_i h <;> first | (simp [trE] at h; done) | (simp [trT] at h; done) | (simp [trW] at h; done) | (simp [trA] at h; done) | (simp [trK] at h; done) | (simp [trO] at h; done) | (simp [trF] at h; done) | (simp [trI] at h; done) | (simp [trG] at h; done) | (simp [trGs] at h; done)
theorem hu (o : XOk P w K mg base k N sc st W X) : X.A.units + 64 < cLine := o.room.units
theorem gl_of (o : XOk P w K mg base k N sc st W X) {x : Str} (h : glob sc x = true) : Gl X x := Gl.of o.hsc (glob_ok h)
theorem goodT {n : Nat} (g : GoodE tb P w K mg base C k n) (o : XOk P w K mg base k N sc st W X) {ex : Expr} {t : PM.T} (h : trT tb N (n + 1) sc ex = some t) : JT C none W X ex t := by
  simp only [trT] at h
  split at h
  · simp only [Option.bind_eq_some_iff] at h
    obtain ⟨ta, h1, h2⟩ := h; cases h2
    exact jt_not (g.T o h1)
  · exact PW.pt (g.B o h)
  · split at h
    · cases h
    · rename_i hs
      simp only [Option.bind_eq_some_iff] at h
      obtain ⟨f, h1, ta, h2, td, h3, h4⟩ := h; cases h4
      exact jt_cmp (cmpOf_ok (hu o) h1) (cmpOf_bl h1) (g.E o h2) (g.E o h3) (mark_no (by simpa using hs))
  · split at h
    · cases h
    · rename_i hs
      simp only [Option.bind_eq_some_iff] at h
      obtain ⟨f, h1, f', h1', ta, h2, td, h3, te, h4, h5⟩ := h; cases h5
      exact jt_chain (cmpOf_ok (hu o) h1) (cmpOf_ok (hu o) h1') (cmpOf_bl h1') (g.E o h2) (g.E o h3) (g.E o h4) (show behindInMarks _ _ = false from mark_no (by simpa using hs))
  · split at h
    · rename_i hp
      simp only [Option.bind_eq_some_iff] at h
      obtain ⟨ta, h1, h2⟩ := h; cases h2
      exact jt_val (g.E o h1) (test_plain hp)
    · cases h
theorem goodB {n : Nat} (g : GoodE tb P w K mg base C k n) (o : XOk P w K mg base k N sc st W X) {op : BoolOp} {es : List Expr} {p : Pos} {t : PM.T} (h : trW tb N (n + 1) sc op es p = some t) : JW C none W X (.BoolOp op es p) t := by
  simp only [trW] at h
  split at h
  · cases op with
    | And => exact jw_and1 (g.T o h)
    | Or => exact jw_or1 (g.T o h)
  · simp only [Option.bind_eq_some_iff] at h
    obtain ⟨ta, h1, tr, h2, h3⟩ := h; cases h3
    exact jw_and (g.T o h1) (g.B o h2)
  · simp only [Option.bind_eq_some_iff] at h
    obtain ⟨ta, h1, tr, h2, h3⟩ := h; cases h3
    exact jw_or (g.T o h1) (g.B o h2)
  · cases h
theorem goodA {n : Nat} (g : GoodE tb P w K mg base C k n) (o : XOk P w K mg base k N sc st W X) {ex : List Expr} {t : PM.A} (h : trA tb N (n + 1) sc ex = some t) : JA C none W X ex t := by
  simp only [trA] at h
  split at h
  · cases h; exact ja_nil
  · split at h
    · cases h
    · rename_i hs
      simp only [Option.bind_eq_some_iff] at h
      obtain ⟨ta, h1, tr, h2, h3⟩ := h; cases h3
      exact ja_cons (g.E o h1) (g.A o h2) (star_cons (by simpa using hs))
theorem goodK {n : Nat} (g : GoodE tb P w K mg base C k n) (o : XOk P w K mg base k N sc st W X) {ex : List Keyword} {t : PM.A} (h : trK tb N (n + 1) sc ex = some t) : JK C none W X ex t := by
  simp only [trK] at h
  split at h
  · cases h; exact jk_nil
  · simp only [Option.bind_eq_some_iff] at h
    obtain ⟨ta, h1, tr, h2, h3⟩ := h; cases h3
    exact jk_cons (g.E o h1) (g.Kw o h2)
theorem goodO {n : Nat} (g : GoodE tb P w K mg base C k n) (o : XOk P w K mg base k N sc st W X) {ex : Option Expr} {t : PT'} (h : trO tb N (n + 1) sc ex = some t) : JO C none W X ex t := by
  simp only [trO] at h
  split at h
  · cases h; exact jo_none
  · simp only [Option.bind_eq_some_iff] at h
    obtain ⟨ta, h1, h2⟩ := h; cases h2
    exact jo_some (g.E o h1)
theorem goodF {n : Nat} (g : GoodE tb P w K mg base C k n) (o : XOk P w K mg base k N sc st WF X) {ex : List Expr} {t : PM.T} (h : trF tb N (n + 1) sc ex = some t) : PTs X ex (rdT C none WF t) := by
  simp only [trF] at h
  split at h
  · cases h; exact jts_nil
  · exact jts_one (g.T o h)
  · cases h
theorem goodG {n : Nat} (g : GoodE tb P w K mg base C k n) (o : XOk P w K mg base k N sc st W X) {ex : Expr} {t : Tg × List Nat} (h : trG N (n + 1) st ex = some t) : JG C none X t.2 ex t.1 := by
  simp only [trG] at h
  split at h
  · simp only [Option.bind_eq_some_iff] at h
    obtain ⟨i, h1, h2⟩ := h; cases h2
    obtain ⟨h3, h4⟩ := slotS_ok h1
    exact jg_name (by rw [o.hN]; exact o.nd) (by rw [o.hN]; exact h3) (o.fn _ h4).1 (o.fn _ h4).2 (fun _ _ q => nomatch q)
  · split at h
    · rename_i hs
      simp only [Option.bind_eq_some_iff] at h
      obtain ⟨ts, h1, h2⟩ := h; cases h2
      obtain ⟨h3, h4⟩ := assign_len (env := X.env) hs
      exact jg_tup o.calm (g.Gs o h1) h3 h4
    · cases h
  · cases h
theorem goodGs {n : Nat} (g : GoodE tb P w K mg base C k n) (o : XOk P w K mg base k N sc st W X) {ex : List Expr} {t : Tgs × List Nat} (h : trGs N (n + 1) st ex = some t) : JGs C none X t.2 ex t.1 := by
  simp only [trGs] at h
  split at h
  · cases h; exact jgs_nil
  · split at h
    · cases h
    · rename_i hs
      simp only [Option.bind_eq_some_iff] at h
      obtain ⟨ta, h1, tr, h2, h3⟩ := h; cases h3
      exact jgs_cons (g.G o h1) (g.Gs o h2) (assign_cons (by simpa using hs))
theorem goodI {n : Nat} (tk : TabOk tb P w K mg base C k) (g : GoodE tb P w K mg base C k n) (o : XOk P w K mg base k N sc st W X) {tg ex : Expr} {t : PM.I} (h : trI tb N (n + 1) sc tg ex = some t) : JI C none W X tg ex t := by
  simp only [trI] at h
  split at h
  · split at h
    · rename_i hc
      obtain ⟨h1, h2, h3, h4⟩ := hc
      have hg := gl_of o h2
      have hm := tk.bis _ h3; rw [← o.hm] at hm
      have hst : ∀ {a : Expr}, isStar a = false → starEach [a] X.env = [(false, eval a X.env)] := fun h => by rw [star_cons h]; rfl
      split at h
      · rename_i e; subst e
        simp only [Option.bind_eq_some_iff] at h
        obtain ⟨ta, h5, h6⟩ := h; cases h6
        exact ji_rg1 hg hm (g.A o h5) (hst h4)
      · split at h
        · rename_i e; subst e
          split at h
          · rename_i ht
            simp only [Option.bind_eq_some_iff] at h
            obtain ⟨ta, h5, h6⟩ := h; cases h6
            cases tg <;> first | (simp [isTupD] at ht; done) | exact ji_enm hg hm (g.A o h5) (hst h4)
          · cases h
        · split at h
          · rename_i e; subst e
            simp only [Option.bind_eq_some_iff] at h
            obtain ⟨ta, h5, h6⟩ := h; cases h6
            exact ji_rev hg hm (g.E o h5) (star_cons h4)
          · simp only [Option.bind_eq_some_iff] at h
            obtain ⟨ta, h5, h6⟩ := h; cases h6
            exact ji_seq (g.E o h5)
    · simp only [Option.bind_eq_some_iff] at h
      obtain ⟨ta, h5, h6⟩ := h; cases h6
      exact ji_seq (g.E o h5)
  · split at h
    · rename_i hc
      obtain ⟨h1, h2, h3, h4, h4'⟩ := hc
      have hg := gl_of o h2
      have hm := tk.bis _ h3; rw [← o.hm] at hm
      split at h
      · rename_i e; subst e
        simp only [Option.bind_eq_some_iff] at h
        obtain ⟨ta, h5, h6⟩ := h; cases h6
        exact ji_rg2 hg hm (g.A o h5) (by rw [star_cons h4, star_cons h4']; rfl) (by rw [star_cons h4']; rfl)
      · split at h
        · rename_i e; subst e
          split at h
          · rename_i ht
            simp only [Option.bind_eq_some_iff] at h
            obtain ⟨ta, h5, h6⟩ := h; cases h6
            cases tg <;> first | (simp [isTupD] at ht; done) | exact ji_zip hg hm (g.A o h5) (star_cons h4) (star_any (by simp [h4']))
          · cases h
        · simp only [Option.bind_eq_some_iff] at h
          obtain ⟨ta, h5, h6⟩ := h; cases h6
          exact ji_seq (g.E o h5)
    · simp only [Option.bind_eq_some_iff] at h
      obtain ⟨ta, h5, h6⟩ := h; cases h6
      exact ji_seq (g.E o h5)
  · simp only [Option.bind_eq_some_iff] at h
    obtain ⟨ta, h5, h6⟩ := h; cases h6
    exact ji_seq (g.E o h5)
end
end PM

set_option Elab.async false
set_option linter.all false
set_option maxRecDepth 100000
set_option autoImplicit false
namespace PM
open PySem PySem.Spec PyProof.Rows L2
section
variable {tb : Tab} {P : Program} {w : World} {K : PySem.W.Frag} {mg : Str → Option Value} {base : Heap} {C : Names} {k : Nat} {N : List Str} {sc st scope : Scope} {W : WX} {X : Cx}
theorem ent_ok {x : Str} {n : Nat} {ks : List Str} {en : Ent} (h : entOf tb x n ks = some en) : en ∈ tb.ents ∧ en.nm = x ∧ en.n = n ∧ en.ks = ks := by
  unfold entOf at h
  have h1 := List.find?_some h
  have h2 := List.mem_of_find?_eq_some h
  simp only [Bool.and_eq_true, beq_iff_eq] at h1
  exact ⟨h2, h1.1.1, h1.1.2, h1.2⟩
theorem goodE {n : Nat} (tk : TabOk tb P w K mg base C k) (g : GoodE tb P w K mg base C k n) (o : XOk P w K mg base k N sc st W X) {ex : Expr} {t : PM.E} (h : trE tb N (n + 1) sc ex = some t) : JE C none W X ex t := by
  simp only [trE] at h
  split at h
  · cases h; exact je_int
  · cases h; exact je_bl
  · cases h; exact je_str
  · cases h; exact je_non
  · -- a name
    split at h
    · rename_i hn
      obtain ⟨n1, n2, n3⟩ := nm_ok hn
      split at h
      · rename_i i hs
        cases h
        obtain ⟨h1, h2⟩ := slot_ok hs
        exact je_var (by rw [o.hN]; exact h1) (by rw [o.hsc]; exact h2) n1 n2
      · split at h
        · rename_i hg
          simp only [Option.map_eq_some_iff] at h
          obtain ⟨u, h1, rfl⟩ := h
          obtain ⟨v, val, h2, h3, h4⟩ := tk.con _ _ h1
          exact je_c (pe_glob (gl_of o hg) (by rw [o.hm]; exact h2) h3 n1) h4
        · cases h
    · cases h
  · simp only [Option.bind_eq_some_iff] at h
    obtain ⟨f, h1, ta, h2, td, h3, h4⟩ := h; cases h4
    exact je_bin (binOf_ok h1) (g.E o h2) (g.E o h3)
  · simp only [Option.bind_eq_some_iff] at h
    obtain ⟨ta, h1, h2⟩ := h; cases h2
    exact je_un neg_ok (g.E o h1)
  · simp only [Option.bind_eq_some_iff] at h
    obtain ⟨ta, h1, h2⟩ := h; cases h2
    exact je_not (g.E o h1)
  · exact je_one (g.E o h)
  · simp only [Option.bind_eq_some_iff] at h
    obtain ⟨ta, h1, td, h2, h3⟩ := h; cases h3
    exact je_and (g.E o h1) (g.E o h2)
  · simp only [Option.bind_eq_some_iff] at h
    obtain ⟨ta, h1, td, h2, h3⟩ := h; cases h3
    exact je_or (g.E o h1) (g.E o h2)
  · split at h
    · cases h
    · rename_i hs
      simp only [Option.bind_eq_some_iff] at h
      obtain ⟨f, h1, ta, h2, td, h3, h4⟩ := h; cases h4
      exact je_cmp (cmpOf_ok (hu o) h1) (g.E o h2) (g.E o h3) (mark_no (by simpa using hs))
  · split at h
    · cases h
    · rename_i hs
      simp only [Option.bind_eq_some_iff] at h
      obtain ⟨f, h1, f', h1', ta, h2, td, h3, te, h4, h5⟩ := h; cases h5
      exact je_chain (cmpOf_ok (hu o) h1) (cmpOf_ok (hu o) h1') (g.E o h2) (g.E o h3) (g.E o h4) (show behindInMarks _ _ = false from mark_no (by simpa using hs))
  · simp only [Option.bind_eq_some_iff] at h
    obtain ⟨tc, h1, ta, h2, td, h3, h4⟩ := h; cases h4
    exact je_if (g.T o h1) (g.E o h2) (g.E o h3)
  · simp only [Option.bind_eq_some_iff] at h
    obtain ⟨ta, h1, h2⟩ := h; cases h2
    exact je_lst (g.A o h1)
  · simp only [Option.bind_eq_some_iff] at h
    obtain ⟨ta, h1, h2⟩ := h; cases h2
    exact je_tup (g.A o h1)
  · cases h; exact je_dct0
  · simp only [Option.bind_eq_some_iff] at h
    obtain ⟨ta, h1, tl, h2, th, h3, h4⟩ := h; cases h4
    exact je_sl (g.E o h1) (g.O o h2) (g.O o h3)
  · split at h
    · cases h
    · rename_i hs
      simp only [Option.bind_eq_some_iff] at h
      obtain ⟨ta, h1, td, h2, h3⟩ := h; cases h3
      exact je_ix (g.E o h1) (g.E o h2) (ix_plain (by simpa using hs))
  · -- a comprehension
    split at h
    · rename_i hc
      obtain ⟨hb, hi⟩ := hc
      simp only [Option.bind_eq_some_iff] at h
      obtain ⟨ti, h1, tg, h2, tt, h3, te, h4, h5⟩ := h
      split at h5
      · rename_i hx
        cases h5
        have bk := blkOk_by hb
        have hix : ∀ i ∈ tg.2, i ∈ (ownOf N _).map (·.2) := fun i hi => of_decide_eq_true (List.all_eq_true.mp hx i hi)
        refine je_lc o.calm (by rw [o.hN]; exact o.nd) (g.I o h1) (by rw [o.hN, o.hsc]; exact bk) hix (fun s H Cc cl fp => ?_) (fun s H Cc cl fp => ?_) (fun s H Cc cl fp => ?_) (fold_no hi)
        · exact g.G (o.blk bk.kind s H Cc cl fp) h2
        · exact g.F (o.blk bk.kind s H Cc cl fp) h3
        · exact g.E (o.blk bk.kind s H Cc cl fp) h4
      · cases h5
    · cases h
  · -- a call by a name
    rename_i x p args kws pos
    split at h
    · rename_i hc
      obtain ⟨hn, hg⟩ := hc
      obtain ⟨n1, n2, n3⟩ := nm_ok hn
      have hG := gl_of o hg
      split at h
      · rename_i hb
        have hm := tk.bis _ hb; rw [← o.hm] at hm
        split at h
        · rename_i hx; subst hx
          split at h
          · rename_i a y py
            split at h
            · rename_i hy
              obtain ⟨y1, y2, y3⟩ := hy
              obtain ⟨m1, m2, m3⟩ := nm_ok y1
              simp only [Option.bind_eq_some_iff] at h
              obtain ⟨T, h1, ta, h2, h3⟩ := h; cases h3
              have hmy := tk.bis _ y3; rw [← o.hm] at hmy
              refine je_isi hG hm (gl_of o y2) hmy (ty_boot h1) m3 m1 (g.E o h2) ?_
              cases a <;> first | rfl | (cases n <;> simp [trE] at h2)
            · cases h
          · rename_i a y py z pz kk pt
            split at h
            · rename_i hy
              obtain ⟨y1, y2, y3, z1, z2, z3⟩ := hy
              obtain ⟨m1, m2, m3⟩ := nm_ok y1
              obtain ⟨m4, m5, m6⟩ := nm_ok z1
              simp only [Option.bind_eq_some_iff] at h
              obtain ⟨T, h1, T', h1', ta, h2, h3⟩ := h; cases h3
              have hmy := tk.bis _ y3; rw [← o.hm] at hmy
              have hmz := tk.bis _ z3; rw [← o.hm] at hmz
              refine je_isi2 hG hm (gl_of o y2) hmy (ty_boot h1) m3 m1 (gl_of o z2) hmz (ty_boot h1') m6 m4 (g.E o h2) ?_
              cases a <;> first | rfl | (cases n <;> simp [trE] at h2)
            · cases h
          · cases h
        · split at h
          · rename_i a es
            split at h
            · rename_i f hf
              simp only [Option.bind_eq_some_iff] at h
              obtain ⟨ta, h1, h2⟩ := h; cases h2
              obtain ⟨id, b1, b2⟩ := bi_call (C := C) o.calm hf
              have hst := trA_star n h1
              simp only [List.all_cons, Bool.and_eq_true, Bool.not_eq_true'] at hst
              exact je_B b2 hG hm b1 (g.A o h1) n3 n1 (star_cons hst.1) (star_any (by simpa using hst.2))
            · simp only [Option.bind_eq_some_iff] at h
              obtain ⟨f, hf, ta, h1, h2⟩ := h; cases h2
              obtain ⟨id, b1, b2⟩ := ty_call (C := C) (X := X) o.calm hf
              have hst := trA_star n h1
              simp only [List.all_cons, Bool.and_eq_true, Bool.not_eq_true'] at hst
              exact je_Ty b2 hG hm b1 (g.A o h1) n3 n1 (star_cons hst.1) (star_any (by simpa using hst.2))
          · cases h
      · split at h
        · rename_i hk
          simp only [Option.bind_eq_some_iff] at h
          obtain ⟨en, h1, ta, h2, td, h3, h4⟩ := h; cases h4
          obtain ⟨e1, e2, e3, e4⟩ := ent_ok h1
          obtain ⟨f, q1, q2, q3⟩ := tk.ent en e1
          have cs := q3 X W o.hP o.hw o.hK o.hm o.hb o.room o.tk
          have hm : X.mg x = some (.ref f) := by rw [o.hm, ← e2]; exact q1
          have hkp : PySem.W.keepIn X.K (.ref f) = true := by rw [o.hK]; exact q2
          have hst := trA_star n h2
          obtain ⟨k1, k2, k3⟩ := kw_all (pos := pos) (env := X.env) hk
          cases args with
          | nil => cases kws with
            | nil =>
              have e5 : ta = aNil := by cases n <;> simp [trA] at h2; exact h2.symm
              have e6 : td = aNil := by cases n <;> simp [trK] at h3; exact h3.symm
              subst e5; subst e6
              have e7 : en.ks = [] := e4
              rw [e7] at cs ⊢
              exact je_call0 cs hG hm hkp n1
            | cons kw kws =>
              have e5 : ta = aNil := by cases n <;> simp [trA] at h2; exact h2.symm
              subst e5
              rw [e4] at cs ⊢
              exact je_callK0 cs hG hm hkp (g.Kw o h3) k1 k3 n1 (by rw [k2]; rfl)
          | cons a es =>
            simp only [List.all_cons, Bool.and_eq_true, Bool.not_eq_true'] at hst
            have hs1 := star_cons (es := es) (env := X.env) hst.1
            have hs2 := star_any (pos := pos) (env := X.env) (es := es) (by simpa using hst.2)
            cases kws with
            | nil =>
              have e6 : td = aNil := by cases n <;> simp [trK] at h3; exact h3.symm
              subst e6
              have e7 : en.ks = [] := e4
              rw [e7] at cs ⊢
              exact je_call cs hG hm hkp (g.A o h2) n1 hs1 hs2
            | cons kw kws =>
              rw [e4] at cs ⊢
              refine je_callK cs hG hm hkp (g.A o h2) (g.Kw o h3) k1 k3 n1 hs1 ?_
              rw [k2, star_any (es := a :: es) (by simp [hst.1]; simpa using hst.2)]; rfl
        · cases h
    · cases h
  · split at h
    · rename_i hc
      obtain ⟨hb, hl⟩ := hc
      simp only [Option.bind_eq_some_iff] at h
      obtain ⟨f, h1, to, h2, ta, h3, h4⟩ := h; cases h4
      have hst := trA_star n h3
      simp only [List.all_cons, Bool.and_eq_true, Bool.not_eq_true'] at hst
      exact je_me h1 (g.E o h2) (g.A o h3) hb hl hst.1 (by simpa using hst.2)
    · cases h
  · split at h
    · rename_i hc
      obtain ⟨hb, hl, rfl⟩ := hc
      simp only [Option.bind_eq_some_iff] at h
      obtain ⟨to, h2, h4⟩ := h; cases h4
      refine (pe_bm0 PySem.F.plainAttrs_list PySem.F.slot_list_pop PySem.F.type_list_pop (pop0_ok (C := C)) (g.E o h2) (base_plain hb) hl).imp fun σ H Q h => ?_
      have h5 := me_rd0 (K := X.K) (fun _ _ _ _ _ => isLst_ty _ _ _ _ _) h
      obtain ⟨m, gg, τ, hR, hS, hP⟩ := h5
      exact ⟨m, gg, τ, hR, hS, hP.imp fun v H1 ⟨q1, q2⟩ => ⟨q1, rfl, q2⟩⟩
    · cases h
  · cases h
theorem goodAll (tk : TabOk tb P w K mg base C k) : ∀ n, GoodE tb P w K mg base C k n
  | 0 => good0
  | n + 1 => by
    have g := goodAll tk n
    exact ⟨fun o h => goodE tk g o h, fun o h => goodT g o h, fun o h => goodB g o h, fun o h => goodA g o h, fun o h => goodK g o h, fun o h => goodO g o h, fun o h => goodF g o h, fun o h => goodI tk g o h, fun o h => goodG g o h, fun o h => goodGs g o h⟩
end
end PM

set_option Elab.async false
set_option linter.all false
set_option maxRecDepth 100000
set_option autoImplicit false
namespace PM
open PySem PySem.Spec PyProof.Rows L2
section
variable {tb : Tab} {P : Program} {w : World} {K : PySem.W.Frag} {mg : Str → Option Value} {base : Heap} {C : Names} {k : Nat} {N : List Str} {sc st scope : Scope} {W : WX} {X : Cx}
structure XSt (P : Program) (w : World) (K : PySem.W.Frag) (mg : Str → Option Value) (base : Heap) (k : Nat) (N : List Str) (sc : Scope) (W : WX) (X : Cx) : Prop where
  o : XOk P w K mg base k N sc sc W X
  hp : PassesOwn (model X.prog X.w) X.A X.env X.xe
  stk : X.stack = X.env :: X.outer
  fr : X.env.frame = some X.env.locals
theorem XSt.tr (o : XSt P w K mg base k N sc W X) {W' : WX} {pn : List (Addr × Obj)} {xe : Value → Shared → Prop} (tk : Takes (X.tr pn xe) W') (hp : PassesOwn (model X.prog X.w) X.A X.env xe) : XSt P w K mg base k N sc W' (X.tr pn xe) :=
  ⟨⟨o.o.hP, o.o.hw, o.o.hK, o.o.hm, o.o.hb, o.o.hN, o.o.nd, o.o.hsc, o.o.kind, o.o.room, o.o.calm, tk, o.o.fn⟩, hp, o.stk, o.fr⟩
/-- suites -/
theorem sole_no {tg a : Expr} {l : Nat} {env : Env} (h : isComp a = false) : swapsWithSole [tg] a l env = pure false := swap_no h
theorem goodQ (tk : TabOk tb P w K mg base C k) (hN : X.N = N) (hs : X.env.scope = sc) (hK : X.K = K) {e : Option (Nat × Addr × Nat × Addr)} {er : Option Str} {a : Addr} {oe : Obj} {cls : Value} {d : Option Addr} {pn : List (Addr × Obj)} {c n : Nat}
    (hz : Zc cls d oe) (hf : ∃ vs, oe.data = .fields vs) (hc : cls = .ref (C.cad c))
    (he : ∀ x, er = some x → ∃ i b, e = some (i, a, n, b) ∧ d = some b ∧ N[i]? = some x) : ∀ (m : Nat) {ex : Expr} {t : Nat → PM.E}, trQ tb N er m sc ex = some t → JE C e WF (X.suite a ((a, oe) :: pn)) ex (t n)
  | 0, _, _, h => by simp [trQ] at h
  | m + 1, ex, t, h => by
    simp only [trQ] at h
    split at h
    · cases h; exact je_int
    · cases h; exact je_bl
    · cases h; exact je_str
    · cases h; exact je_non
    · split at h
      · cases h
      · rename_i hst
        rw [not_or, Bool.not_eq_true, Bool.not_eq_true] at hst
        simp only [Option.bind_eq_some_iff] at h
        obtain ⟨ta, h1, td, h2, h3⟩ := h; cases h3
        exact je_tup (ja_cons (goodQ tk hN hs hK hz hf hc he m h1) (ja_cons (goodQ tk hN hs hK hz hf hc he m h2) ja_nil (star_cons hst.2)) (star_cons hst.1))
    · split at h
      · rename_i hx
        obtain ⟨h1, h2, h3⟩ := hx
        obtain ⟨n1, n2, n3⟩ := nm_ok h1
        simp only [Option.bind_eq_some_iff] at h
        obtain ⟨i, h4, h5⟩ := h; cases h5
        obtain ⟨j, b, rfl, rfl, h6⟩ := he _ h2
        have ef := tk.fld _ _ h4
        rw [← ef]
        exact je_xat tk.inj (by rw [hK]; exact tk.xf c) (by rw [hK, ef]; exact tk.xno c _ _ h4) hz hf hc rfl (by rw [hN]; exact h6) (by rw [hs]; exact .inl (by simpa using h3)) n1 n2
      · cases h
    · cases h
theorem nms (o : XOk P w K mg base k N sc st W X) {x : Str} {v : Value} (h1 : nmOk x = true) (h2 : glob sc x = true) (h3 : mg x = some v) : L2.Names X x v :=
  ⟨gl_of o h2, (nm_ok h1).1, .inl (by rw [o.hm]; exact h3)⟩
theorem goodH (tk : TabOk tb P w K mg base C k) (o : XOk P w K mg base k N sc st W X) (n : Nat) : ∀ {hds : List ExceptHandler} {l : List Hd}, trH tb N n sc hds = some l →
    Clauses X hds (l.map fun h => (Value.ref (C.cad h.1), h.2.1, tsOf C tb.sub h.1 h.2.1 h.2.2))
  | [], l, h => by simp only [trH] at h; cases h; exact .nil
  | hd :: r, l, h => by
    unfold trH at h
    split at h
    · cases ‹hd :: r = []›
    · rename_i e1
      cases e1
      split at h
      · rename_i hx
        simp only [Option.bind_eq_some_iff] at h
        obtain ⟨p, h1, te, h2, hs, h3, h4⟩ := h; cases h4
        obtain ⟨q1, q2⟩ := tk.errs _ _ h1
        refine cl_plain (nms o hx.1 hx.2 q1) (fun a oe cls d pn hz hf c _ hc => jb_one (js_ret ?_)) (goodH tk o n h3)
        exact goodQ tk o.hN o.hsc o.hK (e := none) (er := none) (n := 0) hz hf hc (fun x q => by cases q) n h2
      · cases h
    · rename_i e1
      cases e1
      split at h
      · rename_i hx
        obtain ⟨hx1, hx2, hx3⟩ := hx
        simp only [Option.bind_eq_some_iff] at h
        obtain ⟨p, h1, i, h5, te, h2, hs, h3, h4⟩ := h; cases h4
        obtain ⟨q1, q2⟩ := tk.errs _ _ h1
        have hi := idx_get h5
        refine cl_named (nms o hx1 hx2 q1) (by rw [o.hN]; exact hi) (by unfold Env.kindOf; rw [o.hsc]; exact isLoc_ok hx3) (fun a oe cls d pn hz hf c kk b _ hc hd => jb_one (js_ret ?_)) (goodH tk o n h3)
        exact goodQ tk o.hN o.hsc o.hK hz hf hc (fun x q => by cases q; exact ⟨i, b, rfl, hd, hi⟩) n h2
      · cases h
    · cases h
structure GoodS (tb : Tab) (P : Program) (w : World) (K : PySem.W.Frag) (mg : Str → Option Value) (base : Heap) (C : Names) (k n : Nat) : Prop where
  S : ∀ {N : List Str} {sc : Scope} {W : WX} {X : Cx} {ex : Stmt} {t : PM.S}, XSt P w K mg base k N sc W X → trS tb N n sc ex = some t → JS C none W X ex t
  B : ∀ {N : List Str} {sc : Scope} {W : WX} {X : Cx} {ex : List Stmt} {t : PM.S}, XSt P w K mg base k N sc W X → trB tb N n sc ex = some t → JB C none W X ex t
theorem goodS0 : GoodS tb P w K mg base C k 0 := by
  constructor <;> intros <;> rename_i h <;> first | (simp [trS] at h; done) | (simp [trB] at h; done)
theorem goodSB {n : Nat} (g : GoodS tb P w K mg base C k n) (o : XSt P w K mg base k N sc W X) {ex : List Stmt} {t : PM.S} (h : trB tb N (n + 1) sc ex = some t) : JB C none W X ex t := by
  simp only [trB] at h
  split at h
  · cases h; exact jb_nil
  · exact jb_one (g.S o h)
  · simp only [Option.bind_eq_some_iff] at h
    obtain ⟨ta, h1, td, h2, h3⟩ := h; cases h3
    exact jb_cons (g.S o h1) (g.B o h2)
theorem no_e {i : Nat} : ∀ (j : Nat) (q : Addr × Nat × Addr), (none : Option (Nat × Addr × Nat × Addr)) = some (j, q) → j ≠ i := fun _ _ h => nomatch h
theorem goodS {n : Nat} (tk : TabOk tb P w K mg base C k) (g : GoodS tb P w K mg base C k n) (o : XSt P w K mg base k N sc W X) {ex : Stmt} {t : PM.S} (h : trS tb N (n + 1) sc ex = some t) : JS C none W X ex t := by
  have ge := goodAll tk (C := C) n
  simp only [trS] at h
  split at h
  · cases h; exact js_pass
  · cases h; exact js_break
  · cases h; exact js_continue
  · cases h; exact js_retN
  · simp only [Option.bind_eq_some_iff] at h
    obtain ⟨ta, h1, h2⟩ := h; cases h2
    exact js_ret (ge.E o.o h1)
  · split at h
    · cases h
    · rename_i hc
      simp only [Option.bind_eq_some_iff] at h
      obtain ⟨ta, h1, h2⟩ := h; cases h2
      exact js_expr (ge.E o.o h1) (swap_no (by simpa using hc))
  · simp only [Option.bind_eq_some_iff] at h
    obtain ⟨tc, h1, ta, h2, td, h3, h4⟩ := h; cases h4
    exact js_if (ge.T o.o h1) (g.B o h2) (g.B o h3)
  · split at h
    · cases h
    · rename_i hc
      simp only [Option.bind_eq_some_iff] at h
      obtain ⟨ti, h1, tg, h2, td, h3, h4⟩ := h; cases h4
      exact js_for o.hp o.o.calm (ge.I o.o h1) (ge.G o.o h2) (g.B o h3) (fold_no (by simpa using hc))
  · simp only [Option.bind_eq_some_iff] at h
    obtain ⟨tc, h1, ta, h2, h3⟩ := h; cases h3
    exact js_while o.hp (ge.T o.o h1) (g.B o h2)
  · split at h
    · cases h
    · rename_i hc
      rw [not_or, Bool.not_eq_true, Bool.not_eq_true] at hc
      simp only [Option.bind_eq_some_iff] at h
      obtain ⟨te, h1, to, h2, ti, h3, h4⟩ := h; cases h4
      exact js_sub (ge.E o.o h1) (ge.E o.o h2) (ge.E o.o h3) (sole_no hc.1) (stores_no (.inl rfl)) (assign_one rfl) (sub_assign hc.2)
  · split at h
    · rename_i hw
      split at h
      · rename_i hst
        simp only [Option.bind_eq_some_iff] at h
        obtain ⟨ta, h1, tg, h2, h3⟩ := h; cases h3
        obtain ⟨a1, a2⟩ := assign_len (env := X.env) hst
        refine js_as (je_tup (ge.A o.o h1)) (jg_tup o.o.calm (ge.Gs o.o h2) a1 a2) (sole_no rfl) (sw_ok (by rw [o.o.hsc]; exact o.o.kind) (by rw [o.o.hsc]; exact hw)) (assign_one rfl)
      · cases h
    · rename_i hw
      split at h
      · split at h
        · rename_i hx
          obtain ⟨rfl, rfl, rfl, l1, l2, l3⟩ := hx
          simp only [Option.bind_eq_some_iff] at h
          obtain ⟨i, h1, j, h2, l, h6, h3⟩ := h
          split at h3
          · cases h3
          · rename_i hij
            rw [not_or, not_or] at hij
            simp only [Option.bind_eq_some_iff] at h3
            obtain ⟨ta, h4, h5⟩ := h3; cases h5
            refine js_par3 o.o.calm (by rw [o.o.hN]; exact o.o.nd) (by rw [o.o.hN]; exact idx_get h1) (by rw [o.o.hN]; exact idx_get h2) (by rw [o.o.hN]; exact idx_get h6) hij.1 hij.2.1 hij.2.2 (by rw [o.o.hsc]; exact isLoc_ok l1) (by rw [o.o.hsc]; exact isLoc_ok l2) (by rw [o.o.hsc]; exact isLoc_ok l3) (ge.A o.o h4) (sw_ok (by rw [o.o.hsc]; exact o.o.kind) (by rw [o.o.hsc]; exact hw)) (sole_no rfl) (fun _ _ q => nomatch q)
        · cases h
      · cases h
    · rename_i hw
      split at h
      · split at h
        · rename_i hx
          obtain ⟨rfl, rfl, l1, l2⟩ := hx
          simp only [Option.bind_eq_some_iff] at h
          obtain ⟨i, h1, j, h2, h3⟩ := h
          split at h3
          · cases h3
          · rename_i hij
            simp only [Option.bind_eq_some_iff] at h3
            obtain ⟨ta, h4, h5⟩ := h3; cases h5
            refine js_par o.o.calm (by rw [o.o.hN]; exact o.o.nd) (by rw [o.o.hN]; exact idx_get h1) (by rw [o.o.hN]; exact idx_get h2) hij (by rw [o.o.hsc]; exact isLoc_ok l1) (by rw [o.o.hsc]; exact isLoc_ok l2) (ge.A o.o h4) (sw_ok (by rw [o.o.hsc]; exact o.o.kind) (by rw [o.o.hsc]; exact hw)) (sole_no rfl) (fun _ _ q => nomatch q)
        · cases h
      · cases h
    · cases h
  · split at h
    · rename_i y py e pos hy
      simp only [Option.bind_eq_some_iff] at h
      obtain ⟨te, h1, i, h2, h3⟩ := h
      obtain ⟨s1, s2⟩ := slotS_ok h2
      obtain ⟨f1, f2⟩ := o.o.fn _ s2
      split at h3
      · split at h3
        · split at h3
          · rename_i hsw
            cases h3
            simp only [swapB, Bool.and_eq_true, Bool.not_eq_true'] at hsw
            obtain ⟨⟨w1, w2⟩, w3⟩ := hsw
            have hl : X.env.scope.names.lookup y = some .local := by rw [o.o.hsc]; exact isLoc_ok w1
            have hyn : X.N[i]? = some y := by rw [o.o.hN]; exact s1
            cases n with
            | zero => simp [trE] at h1
            | succ n =>
              have ge' := goodAll tk (C := C) n
              simp only [trE] at h1
              split at h1
              · rename_i hc
                obtain ⟨hb, hi⟩ := hc
                simp only [Option.bind_eq_some_iff] at h1
                obtain ⟨ti, h1, tg, h2, tt, h3, te, h4, h5⟩ := h1
                split at h5
                · rename_i hx
                  cases h5
                  have bk := blkOk_by hb
                  refine js_lc o.o.calm (by rw [o.o.hN]; exact o.o.nd) hyn hl no_e (sw_true (by rw [o.o.hsc]; exact o.o.kind) hl w2 w3) (ge'.I o.o h1) (by rw [o.o.hN, o.o.hsc]; exact bk)
                    (fun i hi => of_decide_eq_true (List.all_eq_true.mp hx i hi)) (fun s H Cc cl fp => ?_) (fun s H Cc cl fp => ?_) (fun s H Cc cl fp => ?_) (fold_no hi)
                  · exact ge'.G (o.o.blk bk.kind s H Cc cl fp) h2
                  · exact ge'.F (o.o.blk bk.kind s H Cc cl fp) h3
                  · exact ge'.E (o.o.blk bk.kind s H Cc cl fp) h4
                · cases h5
              · cases h1
          · cases h3
        · cases h3
      · rename_i hc
        cases h3
        exact js_as (ge.E o.o h1) (jg_name (by rw [o.o.hN]; exact o.o.nd) (by rw [o.o.hN]; exact s1) f1 f2 no_e) (sole_no (by simpa using hc)) (stores_no (.inl rfl)) (assign_one rfl)
    · cases h
  · split at h
    · cases h
    · rename_i hc
      simp only [not_or, Bool.not_eq_true] at hc
      simp only [Option.bind_eq_some_iff] at h
      obtain ⟨te, h1, tg, h2, h3⟩ := h; cases h3
      exact js_as (ge.E o.o h1) (ge.G o.o h2) (sole_no hc.1) (stores_no (.inr hc.2.2)) (assign_one hc.2.1)
  · split at h
    · rename_i hx
      obtain ⟨n1, n2, n3⟩ := nm_ok hx.1
      simp only [Option.bind_eq_some_iff] at h
      obtain ⟨p, h1, h2⟩ := h
      split at h2
      · rename_i hl
        simp only [Option.bind_eq_some_iff] at h2
        obtain ⟨ta, h3, h4⟩ := h2; cases h4
        obtain ⟨q1, q2⟩ := tk.errs _ _ h1
        obtain ⟨fI, fd, ps, t1, t2, t3, t4, t5⟩ := q2 (fun e => by rw [e] at hl; simp at hl)
        have hst := trA_star n h3
        simp only [List.all_cons, Bool.and_eq_true, Bool.not_eq_true'] at hst
        exact js_raise o.o.calm o.o.tk (by rw [o.o.hK]; exact t1) (by rw [o.o.hK]; exact t2) (by rw [o.o.hK]; exact t3) (by rw [o.o.hP, o.o.hw, o.o.hK, o.o.hm, o.o.hb]; exact t4) (o.o.room.mono tk.k2) (by rw [o.o.hK]; exact t5) (gl_of o.o hx.2) (by rw [o.o.hm]; exact q1) (ge.A o.o h3) n1 (star_cons hst.1) (star_any (by simpa using hst.2))
      · cases h2
    · cases h
  · simp only [Option.bind_eq_some_iff] at h
    obtain ⟨s, h1, l, h2, h3⟩ := h; cases h3
    exact js_try (by rw [o.o.hK]; exact tk.sub) o.stk o.fr (by rw [o.o.hN]; exact o.o.nd) o.o.tk (fun W' pn xe t p => g.B (o.tr t p) h1) (goodH tk o.o n h2)
  · cases h
theorem goodSAll (tk : TabOk tb P w K mg base C k) : ∀ n, GoodS tb P w K mg base C k n
  | 0 => goodS0
  | n + 1 => by
    have g := goodSAll tk n
    exact ⟨fun o h => goodS tk g o h, fun o h => goodSB g o h⟩
/-- a def's promise, by its translated text -/
theorem fn_tr {x qual : Str} {s0 : Stmt} {f : Addr} {fd : FuncData} {ps : List Str} {n : Nat} {body : S} (tk : TabOk tb P w K mg base C k) (F : Fun K x qual s0 f fd) (Sc : FnScope N ps (defScope s0)) (nd : N.Nodup)
    (hk : (defScope s0).kind = .function) (h : trB tb N n (defScope s0) (defBody s0) = some body) :
    FnOk P w K mg base (L2.CX P w) (k + 1) f fd ps (rdF C ps.length fun us => gc (fnM N.length body us)) := by
  refine fn_ok F Sc fun cdv A outer s H E hr => ?_
  refine (goodSAll tk n).B ⟨⟨rfl, rfl, rfl, rfl, rfl, rfl, nd, rfl, hk, hr, rfl, takes_of rfl rfl rfl rfl, fun y hy => ⟨hy, .inl rfl⟩⟩, passes_of rfl, rfl, rfl⟩ h
end
end PM

set_option Elab.async false
set_option linter.all false
set_option maxRecDepth 100000
set_option autoImplicit false
namespace PM
open PySem PySem.Spec PyProof.Rows L2
section
variable {P : Program} {w : World} {K : PySem.W.Frag} {mg : Str → Option Value} {base : Heap} {C : Names} {k : Nat}
def EntOk (P : Program) (w : World) (K : PySem.W.Frag) (mg : Str → Option Value) (base : Heap) (C : Names) (k : Nat) (en : Ent) : Prop := ∃ f, mg en.nm = some (.ref f) ∧ PySem.W.keepIn K (.ref f) = true ∧
    ∀ (X : Cx) (W : WX), X.prog = P → X.w = w → X.K = K → X.mg = mg → X.base = base → Room k X.A → Takes X W → CallSem C W X f en.n en.ks en.sem
def EntsOk (P : Program) (w : World) (K : PySem.W.Frag) (mg : Str → Option Value) (base : Heap) (C : Names) (k : Nat) (l : List Ent) : Prop := ∀ en, en ∈ l → EntOk P w K mg base C k en
theorem EntsOk.nil : EntsOk P w K mg base C k [] := fun _ h => nomatch h
theorem EntOk.mono {j : Nat} {en : Ent} (h : EntOk P w K mg base C j en) (hj : j ≤ k) : EntOk P w K mg base C k en := by
  obtain ⟨f, h1, h2, h3⟩ := h
  exact ⟨f, h1, h2, fun X W a b c d e r t => h3 X W a b c d e (r.mono hj) t⟩
theorem EntsOk.mono {j : Nat} {l : List Ent} (h : EntsOk P w K mg base C j l) (hj : j ≤ k) : EntsOk P w K mg base C k l := fun en he => (h en he).mono hj
theorem EntsOk.cons {l : List Ent} {en : Ent} (h : EntOk P w K mg base C k en) (t : EntsOk P w K mg base C k l) : EntsOk P w K mg base C k (en :: l) := fun e he => by
  rcases List.mem_cons.mp he with rfl | h1
  · exact h
  · exact t e h1
/-- what does not hang on the defs -/
structure Tab0 (tb : Tab) (P : Program) (w : World) (K : PySem.W.Frag) (mg : Str → Option Value) (base : Heap) (C : Names) : Prop where
  con : ∀ x u, tb.con.lookup x = some u → ∃ v val, mg x = some val ∧ RelV v val ∧ ∀ m, RV m u v
  bis : ∀ x, x ∈ tb.bis → mg x = none
  errs : ∀ x p, tb.errs.lookup x = some p → mg x = some (.ref (C.cad p.1)) ∧ (p.2 ≠ [] → ∃ fI fd ps, OexC K (C.cad p.1) ∧ PySem.W.findIn K (.ref (C.cad p.1)) "__init__" = some (some (.ref fI)) ∧ PySem.W.typeIn K (.ref fI) = some (.type "function") ∧
    FnOk P w K mg base (L2.CX P w) 1 fI fd ps (spOex (C.cad p.1) (p.2.map C.fld)) ∧ Binds K fd ps [])
  fld : ∀ f i, tb.flds.idxOf? f = some i → C.fld i = f
  inj : ∀ p q, C.fld p = C.fld q → p = q
  sub : ∀ c c', PySem.W.exmOne K (.ref (C.cad c)) (.ref (C.cad c')) = some (tb.sub c c')
  xf : ∀ c, XfC K (C.cad c)
  xno : ∀ c f i, tb.flds.idxOf? f = some i → PySem.W.findIn K (.ref (C.cad c)) f = some none
theorem Tab0.tab {con : List (Str × U)} {errs : List (Str × Nat × List Nat)} {bis flds : List Str} {sub : Nat → Nat → Bool} {fuel : Nat} {l l0 : List Ent} (h : Tab0 ⟨l0, con, errs, bis, flds, sub, fuel⟩ P w K mg base C) (k2 : 2 ≤ k) (he : EntsOk P w K mg base C k l) :
    TabOk ⟨l, con, errs, bis, flds, sub, fuel⟩ P w K mg base C k := ⟨k2, he, h.con, h.bis, h.errs, h.fld, h.inj, h.sub, h.xf, h.xno⟩
theorem stuck_sem {W : WX} {X : Cx} {f : Addr} {n : Nat} {ks : List Str} : CallSem C W X f n ks (fun _ _ _ => .stuck) := fun _ _ _ _ _ _ _ _ _ _ _ _ _ _ ⟨_, _, _, _, _, _, _, h⟩ => h.elim
/-- a def that is not to be called at this depth -/
theorem ent_stuck {f : Addr} {nm : Str} {n : Nat} {ks : List Str} (hm : mg nm = some (.ref f)) (kp : PySem.W.keepIn K (.ref f) = true) : EntOk P w K mg base C k ⟨nm, n, ks, fun _ _ _ => .stuck⟩ := ⟨f, hm, kp, fun _ _ _ _ _ _ _ _ _ => stuck_sem⟩
theorem fn_stuck {x qual : Str} {s0 : Stmt} {f : Addr} {fd : FuncData} {ps : List Str} (F : Fun K x qual s0 f fd) (hb : Binds K fd ps []) : FnOk P w K mg base (L2.CX P w) k f fd ps (rdF C ps.length fun _ _ => .stuck) :=
  ⟨fun _ _ _ _ h => h.1, fun _ _ _ _ _ _ _ _ _ _ _ _ _ ⟨_, _, _, _, _, _, h⟩ => h.elim⟩
theorem ent_pos {f : Addr} {fd : FuncData} {nm : Str} {n : Nat} {ps : List Str} {fm : List U → M U} (F : FnOk P w K mg base (L2.CX P w) k f fd ps (rdF C ps.length fm)) (hm : mg nm = some (.ref f)) (kp : PySem.W.keepIn K (.ref f) = true) (hn : ps.length = n) (hb : Binds K fd ps []) :
    EntOk P w K mg base C k ⟨nm, n, [], fun us _ => fm us⟩ := ⟨f, hm, kp, fun X W e1 e2 e3 e4 e5 r t => by
  subst e1 e2 e3 e4 e5
  refine callSem_of F r t (fun us _ => us) (fun vs _ => vs) (fun us _ => us) (fun s us zs hk h1 h2 => ?_) (fun us zs h1 h2 => by rw [h1]; exact hn.symm) (fun h _ => h) (fun h _ => h)
  have e : zs = [] := List.eq_nil_of_length_eq_zero h2
  subst e
  have := hb s us hk (by rw [List.append_nil, h1]; exact hn.symm)
  rw [List.append_nil] at this
  exact this⟩
def pick {α : Type} (d : α) (π : List Nat) (l : List α) : List α := π.map fun i => l.getD i d
theorem pick_paired {α β : Type} {F : α → β → Prop} {a : α} {b : β} (hd : F a b) {xs : List α} {ys : List β} (h : Paired F xs ys) (π : List Nat) : Paired F (pick a π xs) (pick b π ys) := by
  induction π with
  | nil => exact .nil
  | cons i π ih =>
    refine .cons ?_ ih
    show F (xs.getD i a) (ys.getD i b)
    rw [List.getD_eq_getElem?_getD, List.getD_eq_getElem?_getD]
    cases e : xs[i]? with
    | none =>
      have : ys[i]? = none := by rw [List.getElem?_eq_none_iff] at e ⊢; rw [← Paired.len h]; exact e
      rw [this]; exact hd
    | some x =>
      obtain ⟨y, e1, e2⟩ := Paired.get h e
      rw [e1]; exact e2
theorem Paired.app {α β : Type} {F : α → β → Prop} {as : List α} {bs : List β} {as' : List α} {bs' : List β} (h1 : Paired F as bs) (h2 : Paired F as' bs') : Paired F (as ++ as') (bs ++ bs') := by
  induction h1 with
  | nil => exact h2
  | cons r t ih => exact .cons r ih
theorem vals_paired {vs : List V} {us : List Value} (h : Vals vs us) : Paired RelV vs us := by
  induction h with
  | nil => exact .nil
  | cons r t ih => exact .cons r ih
theorem paired_vals {vs : List V} {us : List Value} (h : Paired RelV vs us) : Vals vs us := by
  induction h with
  | nil => exact .nil
  | cons r t ih => exact .cons r ih
theorem ent_kw {f : Addr} {fd : FuncData} {nm : Str} {n : Nat} {ks ps : List Str} {fm : List U → M U} (π : List Nat) (F : FnOk P w K mg base (L2.CX P w) k f fd ps (rdF C ps.length fm)) (hm : mg nm = some (.ref f)) (kp : PySem.W.keepIn K (.ref f) = true) (hn : π.length = ps.length)
    (hb : ∀ (s : Shared) (us zs : List Value), us.length = n → zs.length = ks.length → BindsTo s fd ⟨us, ks.zip zs⟩ (ps.zip (pick .none π (us ++ zs)))) :
    EntOk P w K mg base C k ⟨nm, n, ks, fun us ys => fm (pick .non π (us ++ ys))⟩ := ⟨f, hm, kp, fun X W e1 e2 e3 e4 e5 r t => by
  subst e1 e2 e3 e4 e5
  refine callSem_of F r t (fun us zs => pick .none π (us ++ zs)) (fun us zs => pick .non π (us ++ zs)) (fun us zs => pick .non π (us ++ zs)) (fun s us zs _ h1 h2 => hb s us zs h1 h2) (fun us zs h1 h2 => by simp [pick, hn]) (fun h1 h2 => ?_) (fun h1 h2 => ?_)
  · exact paired_vals (pick_paired (F := RelV) (a := .non) (b := .none) rfl (Paired.app (vals_paired h1) (vals_paired h2)) π)
  · exact pick_paired (F := RV _) (a := .non) (b := .non) rfl (Paired.app h1 h2) π⟩
/-! ### names of fields -/
def junk (n : Nat) : Str := ⟨Array.replicate (n + 60) 120⟩
def fldOf (l : List Str) (n : Nat) : Str := match l[n]? with | some s => s | none => junk n
theorem fldOf_ix {l : List Str} {f : Str} {i : Nat} (h : l.idxOf? f = some i) : fldOf l i = f := by
  unfold fldOf; rw [idx_get h]
theorem fldOf_inj {l : List Str} (nd : l.Nodup) (hs : ∀ s ∈ l, s.cps.size < 60) (p q : Nat) (h : fldOf l p = fldOf l q) : p = q := by
  unfold fldOf at h
  cases e1 : l[p]? with
  | none =>
    cases e2 : l[q]? with
    | none =>
      simp only [e1, e2] at h
      have := congrArg (fun s : Str => s.cps.size) h
      simp only [junk, Array.size_replicate] at this
      omega
    | some s =>
      simp only [e1, e2] at h
      have := hs s (List.mem_of_getElem? e2)
      rw [← h] at this
      simp only [junk, Array.size_replicate] at this
      omega
  | some s =>
    cases e2 : l[q]? with
    | none =>
      simp only [e1, e2] at h
      have := hs s (List.mem_of_getElem? e1)
      rw [h] at this
      simp only [junk, Array.size_replicate] at this
      omega
    | some t =>
      simp only [e1, e2] at h
      subst h
      obtain ⟨h1, h2⟩ := List.getElem?_eq_some_iff.mp e1
      obtain ⟨h3, h4⟩ := List.getElem?_eq_some_iff.mp e2
      exact (List.getElem_inj (h₀ := h1) (h₁ := h3) nd).mp (h2.trans h4.symm)
/-! ### classes -/
def cadOf (d : Addr) (l : List Addr) (n : Nat) : Addr := l.getD n d
theorem cad_all {p : Addr → Prop} {d : Addr} {l : List Addr} (hd : p d) (h : ∀ a ∈ l, p a) (n : Nat) : p (cadOf d l n) := by
  unfold cadOf
  rw [List.getD_eq_getElem?_getD]
  cases e : l[n]? with
  | none => exact hd
  | some a => exact h a (List.mem_of_getElem? e)
/-- the table of what is a subclass of what -/
def subOf (n : Nat) (t : List (List Bool)) (c c' : Nat) : Bool := (t.getD (if c < n then c else 0) []).getD (if c' < n then c' else 0) false
theorem exm_one {S T : Addr} {b : Bool} (h1 : PySem.W.subIn K (.ref T) (.type "BaseException") = some true) (h2 : PySem.W.isClsIn K T = true) (h3 : PySem.W.typeIn K (.ref T) = some (.type "type")) (h4 : PySem.W.subIn K (.ref S) (.ref T) = some b) :
    PySem.W.exmOne K (.ref S) (.ref T) = some b := by
  have e1 : (PySem.W.subIn K (.ref T) (.type "BaseException") == some true) = true := by rw [h1] <;> rfl
  have e2 : ((PySem.W.clsIn K T).isSome && PySem.W.typeIn K (.ref T) == some (.type "type")) = true := by
    have h2' : (PySem.W.clsIn K T).isSome = true := h2
    rw [h2', h3] <;> rfl
  show (if (PySem.W.subIn K (.ref T) (.type "BaseException") == some true) = true then (if ((PySem.W.clsIn K T).isSome && PySem.W.typeIn K (.ref T) == some (.type "type")) = true then PySem.W.subIn K (.ref S) (.ref T) else none) else none) = some b
  rw [if_pos e1, if_pos e2]
  exact h4
/-! ### the law's end -/
def noList (K : PySem.W.Frag) : Prop := ∀ a o, K.lookup a = some o → o.cls ≠ .type "list"
def isTy (t : String) : Value → Bool | .type s => s == t | _ => false
def noListB (K : PySem.W.Frag) : Bool := K.all fun p => !(isTy "list" p.2.cls)
theorem memK : ∀ {K : List (Addr × Obj)} {a : Addr} {o : Obj}, K.lookup a = some o → (a, o) ∈ K
  | [], _, _, e => by cases e
  | (b, x) :: r, a, o, e => by
    rw [List.lookup_cons] at e
    cases hb : a == b with
    | true =>
      rw [hb] at e
      have e1 : a = b := by simpa using hb
      cases e; subst e1; exact List.mem_cons_self
    | false => rw [hb] at e; exact List.mem_cons_of_mem _ (memK e)
theorem noList_of {K : PySem.W.Frag} (h : noListB K = true) : noList K := fun a o e hc => by
  have h1 := List.all_eq_true.mp h (a, o) (memK e)
  simp [hc, isTy] at h1
end
theorem law_start {C : Names} {K : PySem.W.Frag} {H : Hp} {a : Addr} {ns : List Int} (hO : L2.Only H) (hS : SqL K H a (ns.map V.int)) (hK : noList K) : Rel C [a] [.frz (ns.map U.int)] H := by
  have rv : RVs [a] (ns.map U.int) (ns.map V.int) := by
    induction ns with
    | nil => exact .nil
    | cons x r ih =>
      refine .cons rfl ?_
      have h2 : ∀ l : List Int, RVs [a] (l.map U.int) (l.map V.int) := fun l => by
        induction l with
        | nil => exact .nil
        | cons y s ih => exact .cons rfl ih
      exact h2 r
  refine ⟨rfl, List.nodup_cons.mpr ⟨(fun h => nomatch h), List.nodup_nil⟩, fun n b o h1 h2 => ?_⟩
  match n, h1, h2 with
  | 0, h1, h2 =>
    cases h1; cases h2
    rcases hS with (h | ⟨ob, h⟩) | ⟨o, its, n, h1, h2, _⟩
    · rcases hO a with h3 | ⟨o, xs, h3⟩
      · rw [h3] at h; cases h
      · rw [h3] at h
        have h' := Option.some.inj h
        cases h'
    · exact ⟨ob, _, h, rv⟩
    · exact (hK a o h1 h2).elim
/-- the promise of the law's def -/
def spLaw (K : PySem.W.Frag) : Sp := fun vs H Q _ => ∃ (a : Addr) (ns : List Int), vs = [.ref a] ∧ L2.Only H ∧ SqL K H a (ns.map V.int) ∧ ns.length ≤ 63 ∧ ∀ H', Q (.bl true) H'
theorem walk {l : PySem.W.OpenLaw} {q : Program} {loose : List Str} {XP : (Str → Option Value) → Heap → Prop} {YP : World → Heap → Prop} {d : DefRec} {K : Params → PySem.W.Frag} {k : Nat} {fm : List U → M U}
    (hn : l.most = some 63) (hdf : d.params.defaults = []) (hr : Room k callerA) (hY : ∀ (w : World) (h : Heap), YP w h → (K w.params).In h) (hK : ∀ w : World, noList (K w.params))
    (F : ∀ (w : World) (mg : Str → Option Value) (fa : Addr) (h : Heap), (K w.params).In h → h.Ns mainGlobals mg → mg d.name = some (.ref fa) →
      ∃ (C : Names) (fd : FuncData), (∀ (s : Shared) (u : Value), BindsTo s fd ⟨[u], []⟩ [("script", u)]) ∧ ∀ base : Heap, (K w.params).In base → base.Ns mainGlobals mg → FnOk l.prog w (K w.params) mg base (L2.CX l.prog w) k fa fd ["script"] (rdF C 1 fm))
    (hm : ∀ ns : List Int, ns.length ≤ 63 → ∃ g', fm [.obj 0] [.frz (ns.map U.int)] = .ok (.bl true) g') : PySem.W.WalkO q loose XP YP l.row.toRowW d [] (fun f vs => PySem.call f vs) :=
  L2.walk_of (n := 63) (k := k) (x := "script") (CX := fun w => L2.CX l.prog w) (sp := fun w => spLaw (K w.params)) hn (by decide) hdf hr hY (fun w mg fa h a b c => by
    obtain ⟨C, fd, h1, h2⟩ := F w mg fa h a b c
    refine ⟨fd, h1, fun base e1 e2 => (h2 base e1 e2).imp ?_⟩
    rintro vs H Q E ⟨a, ns, rfl, hO, hS, hl, q⟩
    obtain ⟨g', e⟩ := hm ns hl
    refine ⟨rfl, [a], _, [.obj 0], law_start hO hS (hK w), .cons ⟨a, rfl, rfl⟩ .nil, ?_⟩
    rw [e]
    intro m' H' v x' r' rv
    obtain rfl : v = .bl true := rv
    exact q H') (fun w H a ns hl hO hS => ⟨a, ns, rfl, hO, hS, hl, fun _ => rfl⟩) fun w H s e s' ⟨_, _, _, _, _, _, _, _, _, _, _, _, z⟩ => z
end PM

set_option Elab.async false
set_option linter.all false
set_option maxRecDepth 100000
set_option autoImplicit false
namespace PM
open PySem

/-! ## reasoning about the values' programs -/
abbrev XP := Nat → Option Nat → G → Prop
def Res.sat' {α : Type} (r : Res α) (Q : α → G → Prop) (X : XP) : Prop := match r with | .ok a g => Q a g | .exc c d g => X c d g | .stuck => False
structure Res.sat {α : Type} (r : Res α) (Q : α → G → Prop) (X : XP) : Prop where
  run : r.sat' Q X
structure Ps where
  nx : Sl → G → Prop
  rt : U → G → Prop
  bk : Sl → G → Prop
  ct : Sl → G → Prop
  ex : Nat → Option Nat → Sl → G → Prop
def RS.sat' (r : RS) (D : Ps) : Prop := match r with | .nx τ g => D.nx τ g | .rt u g => D.rt u g | .bk τ g => D.bk τ g | .ct τ g => D.ct τ g | .ex c d τ g => D.ex c d τ g | .stuck => False
abbrev nxs (D : Ps) (f : Sl → G → Prop) : Ps := { nx := f, rt := D.rt, bk := D.bk, ct := D.ct, ex := D.ex }
abbrev lps (D : Ps) (f : Sl → G → Prop) : Ps := { nx := f, rt := D.rt, bk := D.nx, ct := f, ex := D.ex }
abbrev fps (Q : U → G → Prop) (X : XP) : Ps := { nx := fun _ g => Q .non g, rt := Q, bk := fun _ _ => False, ct := fun _ _ => False, ex := fun c d _ g => X c d g }
structure RS.sat (r : RS) (D : Ps) : Prop where
  run : r.sat' D
section
variable {α β : Type} {Q Q' : α → G → Prop} {X X' : XP} {g g' : G} {τ : Sl} {D : Ps}
theorem Res.sat.mono {r : Res α} (h : r.sat Q X) (h1 : ∀ a g, Q a g → Q' a g) (h2 : ∀ c d g, X c d g → X' c d g) : r.sat Q' X' := by
  cases r with
  | ok a g => exact ⟨h1 _ _ h.run⟩
  | exc c d g => exact ⟨h2 _ _ _ h.run⟩
  | stuck => exact h.run.elim
theorem Res.sat.ok {r : Res α} {u : α} (h : r.sat (fun a g => a = u ∧ g = g') (fun _ _ _ => False)) : r = .ok u g' := by
  cases r with
  | ok a g => obtain ⟨⟨rfl, rfl⟩⟩ := h; rfl
  | exc c d g => exact h.run.elim
  | stuck => exact h.run.elim
theorem Res.sat.of {r : Res α} {u : α} (e : r = .ok u g') (h : Q u g') : r.sat Q X := by rw [e]; exact ⟨h⟩
theorem sat_bnd {Q : β → G → Prop} {r : Res α} {f : α → M β} (h : r.sat (fun a g => (f a g).sat Q X) X) : (bnd r f).sat Q X := by
  cases r with
  | ok a g => exact h.run
  | exc c d g => exact ⟨h.run⟩
  | stuck => exact h.run.elim
theorem sat_bndS {r : Res α} {f : α → G → RS} (h : r.sat (fun a g => (f a g).sat D) (fun c d g => D.ex c d τ g)) : (bndS r τ f).sat D := by
  cases r with
  | ok a g => exact h.run
  | exc c d g => exact ⟨h.run⟩
  | stuck => exact h.run.elim
theorem RS.sat.mono {r : RS} {D D' : Ps} (h : r.sat D) (h1 : ∀ τ g, D.nx τ g → D'.nx τ g) (h2 : ∀ u g, D.rt u g → D'.rt u g) (h3 : ∀ τ g, D.bk τ g → D'.bk τ g) (h4 : ∀ τ g, D.ct τ g → D'.ct τ g) (h5 : ∀ c d τ g, D.ex c d τ g → D'.ex c d τ g) : r.sat D' := by
  cases r with
  | nx τ g => exact ⟨h1 _ _ h.run⟩
  | rt u g => exact ⟨h2 _ _ h.run⟩
  | bk τ g => exact ⟨h3 _ _ h.run⟩
  | ct τ g => exact ⟨h4 _ _ h.run⟩
  | ex c d τ g => exact ⟨h5 _ _ _ _ h.run⟩
  | stuck => exact h.run.elim
/-! ### expressions -/
variable {Q : U → G → Prop} {QA : List U → G → Prop} {QT : Bool → G → Prop} {QI : Wk → G → Prop} {QO : Option Int → G → Prop} {a b c : E} {aa ak : A} {ta tb : T}
theorem w_var {i : Nat} {u : U} (h : τ[i]? = some (some u)) (q : Q u g) : (eVar i τ g).sat Q X := by
  have e : eVar i τ g = .ok u g := by unfold eVar; rw [h]
  rw [e]; exact ⟨q⟩
theorem w_c {u : U} (q : Q u g) : (eC u τ g).sat Q X := ⟨q⟩
theorem w_bin {f : U → U → Op U} (h : (a τ g).sat (fun x g1 => (b τ g1).sat (fun y g2 => (lift (f x y) g2).sat Q X) X) X) : (eBin f a b τ g).sat Q X := sat_bnd (h.mono (fun _ _ h => sat_bnd h) fun _ _ _ h => h)
theorem w_un {f : U → Op U} (h : (a τ g).sat (fun x g1 => (lift (f x) g1).sat Q X) X) : (eUn f a τ g).sat Q X := sat_bnd h
theorem w_nil (q : QA [] g) : (aNil τ g).sat QA X := ⟨q⟩
theorem w_cons (h : (a τ g).sat (fun x g1 => (aa τ g1).sat (fun xs g2 => QA (x :: xs) g2) X) X) : (aCons a aa τ g).sat QA X := sat_bnd (h.mono (fun _ _ h => sat_bnd (h.mono (fun _ _ h => ⟨h⟩) fun _ _ _ h => h)) fun _ _ _ h => h)
theorem w_N {f : List U → Op U} (h : (aa τ g).sat (fun x g1 => (lift (f x) g1).sat Q X) X) : (eN f aa τ g).sat Q X := sat_bnd h
theorem w_G {n k : Nat} {sem : List U → List U → M U} (h : (aa τ g).sat (fun xs g1 => (ak τ g1).sat (fun ys g2 => (xs.length = n ∧ ys.length = k) ∧ (sem xs ys g2).sat Q X) X) X) : (eG n k sem aa ak τ g).sat Q X :=
  sat_bnd (h.mono (fun _ _ h => sat_bnd (h.mono (fun _ _ h => by rw [if_pos h.1]; exact h.2) fun _ _ _ h => h)) fun _ _ _ h => h)
theorem w_Me {f : U → List U → Op U} {ty : U → G → Bool} (h : (a τ g).sat (fun x g1 => ty x g1 = true ∧ (aa τ g1).sat (fun ys g2 => (lift (f x ys) g2).sat Q X) X) X) : (eMe ty f a aa τ g).sat Q X :=
  sat_bnd (h.mono (fun _ _ h => by rw [if_pos h.1]; exact sat_bnd h.2) fun _ _ _ h => h)
theorem w_E (h : (a τ g).sat (fun x g1 => (lift (uTru x) g1).sat QT X) X) : (tE a τ g).sat QT X := sat_bnd h
theorem w_tNo (h : (ta τ g).sat (fun x g1 => QT (!x) g1) X) : (tNo ta τ g).sat QT X := sat_bnd (h.mono (fun _ _ h => ⟨h⟩) fun _ _ _ h => h)
theorem w_An (h : (ta τ g).sat (fun x g1 => (x = true → (tb τ g1).sat QT X) ∧ (x = false → QT false g1)) X) : (tAn ta tb τ g).sat QT X := sat_bnd (h.mono (fun x _ h => by cases x with | true => exact h.1 rfl | false => exact ⟨h.2 rfl⟩) fun _ _ _ h => h)
theorem w_Orr (h : (ta τ g).sat (fun x g1 => (x = true → QT true g1) ∧ (x = false → (tb τ g1).sat QT X)) X) : (tOrr ta tb τ g).sat QT X := sat_bnd (h.mono (fun x _ h => by cases x with | true => exact ⟨h.1 rfl⟩ | false => exact h.2 rfl) fun _ _ _ h => h)
theorem w_eAnd (h : (a τ g).sat (fun x g1 => (lift (uTru x) g1).sat (fun k g2 => (k = true → (b τ g2).sat Q X) ∧ (k = false → Q x g2)) X) X) : (eAnd a b τ g).sat Q X :=
  sat_bnd (h.mono (fun x _ h => sat_bnd (h.mono (fun k _ h => by cases k with | true => exact h.1 rfl | false => exact ⟨h.2 rfl⟩) fun _ _ _ h => h)) fun _ _ _ h => h)
theorem w_eOr (h : (a τ g).sat (fun x g1 => (lift (uTru x) g1).sat (fun k g2 => (k = true → Q x g2) ∧ (k = false → (b τ g2).sat Q X)) X) X) : (eOr a b τ g).sat Q X :=
  sat_bnd (h.mono (fun x _ h => sat_bnd (h.mono (fun k _ h => by cases k with | true => exact ⟨h.1 rfl⟩ | false => exact h.2 rfl) fun _ _ _ h => h)) fun _ _ _ h => h)
theorem w_eNo (h : (a τ g).sat (fun x g1 => (lift (uTru x) g1).sat (fun k g2 => Q (.bl (!k)) g2) X) X) : (eNo a τ g).sat Q X := sat_bnd (h.mono (fun _ _ h => sat_bnd (h.mono (fun _ _ h => ⟨h⟩) fun _ _ _ h => h)) fun _ _ _ h => h)
theorem w_eIf (h : (ta τ g).sat (fun x g1 => (x = true → (a τ g1).sat Q X) ∧ (x = false → (b τ g1).sat Q X)) X) : (eIf ta a b τ g).sat Q X := sat_bnd (h.mono (fun x _ h => by cases x with | true => exact h.1 rfl | false => exact h.2 rfl) fun _ _ _ h => h)
theorem w_chain {f f' : U → U → Op U} (h : (a τ g).sat (fun x g1 => (b τ g1).sat (fun y g2 => (lift (f x y) g2).sat (fun z g3 => ∃ k, z = .bl k ∧ (k = true → (c τ g3).sat (fun w g4 => (lift (f' y w) g4).sat Q X) X) ∧ (k = false → Q (.bl false) g3)) X) X) X) : (eChain f f' a b c τ g).sat Q X :=
  sat_bnd (h.mono (fun x _ h => sat_bnd (h.mono (fun y _ h => sat_bnd (h.mono (fun z _ h => by
    obtain ⟨k, rfl, h1, h2⟩ := h
    cases k with
    | true => exact sat_bnd (h1 rfl)
    | false => exact ⟨h2 rfl⟩) fun _ _ _ h => h)) fun _ _ _ h => h)) fun _ _ _ h => h)
theorem w_pNo (q : QO none g) : (pNo τ g).sat QO X := ⟨q⟩
theorem w_pSo (h : (a τ g).sat (fun x g1 => ∃ i, x = .int i ∧ QO (some i) g1) X) : (pSo a τ g).sat QO X := sat_bnd (h.mono (fun x _ h => by obtain ⟨i, rfl, h⟩ := h; exact ⟨h⟩) fun _ _ _ h => h)
theorem w_Sl {f : U → Option Int → Option Int → Op U} {lo hi : PT'} (h : (a τ g).sat (fun x g1 => (lo τ g1).sat (fun l g2 => (hi τ g2).sat (fun k g3 => (lift (f x l k) g3).sat Q X) X) X) X) : (eSl f a lo hi τ g).sat Q X :=
  sat_bnd (h.mono (fun _ _ h => sat_bnd (h.mono (fun _ _ h => sat_bnd h) fun _ _ _ h => h)) fun _ _ _ h => h)
/-! ### lookups -/
theorem get_app {l : List O} {n : Nat} {o : O} (h : g[n]? = some o) : (g ++ l)[n]? = some o := by
  rw [List.getElem?_append_left (List.getElem?_eq_some_iff.mp h).1]; exact h
theorem get_last {o : O} : (g ++ [o])[g.length]? = some o := List.getElem?_concat_length
theorem lt_of_get {n : Nat} {o : O} (h : g[n]? = some o) : n < g.length := (List.getElem?_eq_some_iff.mp h).1
theorem get_set {n : Nat} {o o' : O} (h : g[n]? = some o') : (g.set n o)[n]? = some o := List.getElem?_set_self (lt_of_get h)
theorem get_set_ne {n k : Nat} {o o' : O} (hn : k ≠ n) (h : g[n]? = some o') : (g.set k o)[n]? = some o' := by rw [List.getElem?_set_ne hn]; exact h
theorem sq_lst {n : Nat} {xs : List U} (h : g[n]? = some (.lst xs)) : seqAt g n = some (false, xs) := by unfold seqAt; rw [h]
theorem sq_frz {n : Nat} {xs : List U} (h : g[n]? = some (.frz xs)) : seqAt g n = some (false, xs) := by unfold seqAt; rw [h]
theorem sq_tup {n : Nat} {xs : List U} (h : g[n]? = some (.tup xs)) : seqAt g n = some (true, xs) := by unfold seqAt; rw [h]
/-! ### operations -/
theorem lift_some {α : Type} {Q : α → G → Prop} {p : Op α} {u : α} (h : p g = some (u, g')) (q : Q u g') : (lift p g).sat Q X := by
  have e : lift p g = .ok u g' := by unfold lift; rw [h]
  rw [e]; exact ⟨q⟩
theorem o_add {i j : Int} (q : Q (.int (i + j)) g) : (lift (uAdd (.int i) (.int j)) g).sat Q X := ⟨q⟩
theorem o_sub {i j : Int} (q : Q (.int (i - j)) g) : (lift (uSub (.int i) (.int j)) g).sat Q X := ⟨q⟩
theorem o_neg {i : Int} (q : Q (.int (-i)) g) : (lift (uNeg (.int i)) g).sat Q X := ⟨q⟩
theorem o_mul {i j : Int} (h : i.natAbs.log2 + j.natAbs.log2 < 1000000) (q : Q (.int (i * j)) g) : (lift (uMul (.int i) (.int j)) g).sat Q X := by
  have e : uMul (.int i) (.int j) g = some (.int (i * j), g) := by unfold uMul; simp only [if_pos h]
  exact lift_some e q
theorem log2_small {n k : Nat} (h : n < 2 ^ k) : n.log2 ≤ k := by
  by_cases h0 : n = 0
  · subst h0; simp [Nat.log2_zero]
  · exact Nat.le_of_lt ((Nat.log2_lt h0).mpr h)
theorem o_mulB {i j : Int} (h : -1000000000000000000000000000000000000000000000000000000000000 ≤ i ∧ i ≤ 1000000000000000000000000000000000000000000000000000000000000 ∧ -1000000000000000000000000000000000000000000000000000000000000 ≤ j ∧ j ≤ 1000000000000000000000000000000000000000000000000000000000000) (q : Q (.int (i * j)) g) : (lift (uMul (.int i) (.int j)) g).sat Q X := by
  refine o_mul ?_ q
  have h1 := log2_small (n := i.natAbs) (k := 200) (by omega)
  have h2 := log2_small (n := j.natAbs) (k := 200) (by omega)
  omega
theorem o_fdiv {i j : Int} (h : 0 < j ∧ j.natAbs.log2 < 9000) (q : Q (.int (i / j)) g) : (lift (uFdiv (.int i) (.int j)) g).sat Q X := by
  have e : uFdiv (.int i) (.int j) g = some (.int (i / j), g) := by unfold uFdiv; simp only [if_pos h]
  exact lift_some e q
theorem o_fdivB {i j : Int} (h : 0 < j ∧ j ≤ 1000000000000000000000000000000000000000000000000000000000000) (q : Q (.int (i / j)) g) : (lift (uFdiv (.int i) (.int j)) g).sat Q X := by
  refine o_fdiv ⟨h.1, ?_⟩ q
  have h1 := log2_small (n := j.natAbs) (k := 200) (by omega)
  omega
theorem o_mod {i j : Int} (h : 0 < j) (q : Q (.int (i % j)) g) : (lift (uMod (.int i) (.int j)) g).sat Q X := by
  have e : uMod (.int i) (.int j) g = some (.int (i % j), g) := by unfold uMod; simp only [if_pos h]
  exact lift_some e q
theorem o_pow {i j : Int} (h : 0 ≤ j ∧ j ≤ 1000000 ∧ i.natAbs < 2 ^ 64) (q : Q (.int (i ^ j.toNat)) g) : (lift (uPow (.int i) (.int j)) g).sat Q X := by
  have e : uPow (.int i) (.int j) g = some (.int (i ^ j.toNat), g) := by unfold uPow; simp only [if_pos h]
  exact lift_some e q
theorem o_lt {i j : Int} (q : Q (.bl (decide (i < j))) g) : (lift (uLt (.int i) (.int j)) g).sat Q X := ⟨q⟩
theorem o_le {i j : Int} (q : Q (.bl (decide (i ≤ j))) g) : (lift (uLe (.int i) (.int j)) g).sat Q X := ⟨q⟩
theorem o_gt {i j : Int} (q : Q (.bl (decide (j < i))) g) : (lift (uGt (.int i) (.int j)) g).sat Q X := ⟨q⟩
theorem o_ge {i j : Int} (q : Q (.bl (decide (j ≤ i))) g) : (lift (uGe (.int i) (.int j)) g).sat Q X := ⟨q⟩
theorem o_eq {x y : U} (h : scalU x y = true) (q : Q (.bl (decide (x = y))) g) : (lift (uEq x y) g).sat Q X := by
  have e : uEq x y g = some (.bl (decide (x = y)), g) := by unfold uEq uEqG; simp only [if_pos h, Bool.false_eq_true, if_false]
  exact lift_some e q
theorem o_ne {x y : U} (h : scalU x y = true) (q : Q (.bl (!decide (x = y))) g) : (lift (uNe x y) g).sat Q X := by
  have e : uNe x y g = some (.bl (!decide (x = y)), g) := by unfold uNe uEqG; simp only [if_pos h, if_true]
  exact lift_some e q
theorem o_isn {x : U} (q : Q (.bl (decide (x = .non))) g) : (lift (uIs false x .non) g).sat Q X := ⟨q⟩
theorem o_isb {i j : Bool} (q : Q (.bl (decide (i = j))) g) : (lift (uIs false (.bl i) (.bl j)) g).sat Q X := ⟨q⟩
theorem o_tru_b {b : Bool} (q : QT b g) : (lift (uTru (.bl b)) g).sat QT X := ⟨q⟩
theorem o_tru_i {i : Int} (q : QT (i != 0) g) : (lift (uTru (.int i)) g).sat QT X := ⟨q⟩
theorem o_isi {x : U} {ts : List Ty} {t : Ty} {k : Bool} (h : tyU g x = some t) (e : ts.any (isiT t) = k) (q : Q (.bl k) g) : (lift (uIsI ts x) g).sat Q X := by
  subst e
  have e : uIsI ts x g = some (.bl (ts.any (isiT t)), g) := by unfold uIsI; rw [h]
  exact lift_some e q
def tyO : O → Option Ty
  | .lst _ => some .list | .frz _ => some .list | .tup _ => some .tuple | .dct _ => some .dict | _ => none
theorem ty_obj {n : Nat} {t : Ty} {o : O} (h : g[n]? = some o) (e : tyO o = some t) : tyU g (.obj n) = some t := by
  unfold tyU; simp only [h]; cases o <;> exact e
theorem o_abs {i : Int} (q : Q (.int (if i < 0 then -i else i)) g) : (lift (uAbs [.int i]) g).sat Q X := ⟨q⟩
theorem o_int {i : Int} (q : Q (.int i) g) : (lift (uInt [.int i]) g).sat Q X := ⟨q⟩
theorem o_intb {k : Bool} (q : Q (.int (if k then 1 else 0)) g) : (lift (uInt [.bl k]) g).sat Q X := ⟨q⟩
theorem o_max2 {i j : Int} (q : Q (.int (if j > i then j else i)) g) : (lift (uMax [.int i, .int j]) g).sat Q X := ⟨q⟩
theorem o_min2 {i j : Int} (q : Q (.int (if j < i then j else i)) g) : (lift (uMin [.int i, .int j]) g).sat Q X := ⟨q⟩
theorem o_len {n : Nat} {t : Bool} {xs : List U} (h : seqAt g n = some (t, xs)) (q : Q (.int xs.length) g) : (lift (uLen [.obj n]) g).sat Q X := by
  have e : uLen [.obj n] g = some (.int xs.length, g) := by unfold uLen; simp only [h]
  exact lift_some e q
theorem o_lenD {n : Nat} {kvs : List (L2.Key × U)} (h : g[n]? = some (.dct kvs)) (q : Q (.int kvs.length) g) : (lift (uLen [.obj n]) g).sat Q X := by
  have e : uLen [.obj n] g = some (.int kvs.length, g) := by unfold uLen seqAt; simp only [h]
  exact lift_some e q
theorem o_idx {n : Nat} {t : Bool} {xs : List U} {i : Int} {u : U} (h : seqAt g n = some (t, xs)) (h2 : atU xs i = some u) (q : Q u g) : (lift (uIdx (.obj n) (.int i)) g).sat Q X := by
  have e : uIdx (.obj n) (.int i) g = some (u, g) := by unfold uIdx; simp only [h, h2, Option.map_some]
  exact lift_some e q
theorem o_idxS {z : Str} {i : Int} {c : Nat} (h : z.length ≤ sizeLine) (h2 : L2.atI z.cps.toList i = some c) (q : Q (.str ⟨#[c]⟩) g) : (lift (uIdx (.str z) (.int i)) g).sat Q X := by
  have e : uIdx (.str z) (.int i) g = some (.str ⟨#[c]⟩, g) := by unfold uIdx; simp only [if_pos h, h2, Option.map_some]
  exact lift_some e q
theorem o_slS {z : Str} {lo hi : Option Int} (h : z.length ≤ sizeLine) (q : Q (.str (L2.cutS z lo hi)) g) : (lift (uSl (.str z) lo hi) g).sat Q X := by
  have e : uSl (.str z) lo hi g = some (.str (L2.cutS z lo hi), g) := by unfold uSl; simp only [if_pos h]
  exact lift_some e q
theorem o_lenS {z : Str} (h : z.length ≤ sizeLine) (q : Q (.int z.length) g) : (lift (uLen [.str z]) g).sat Q X := by
  have e : uLen [.str z] g = some (.int z.length, g) := by unfold uLen; simp only [if_pos h]
  exact lift_some e q
theorem o_lst {xs : List U} (h : xs.length ≤ sizeLine) (q : Q (.obj g.length) (g ++ [.lst xs])) : (lift (uLst xs) g).sat Q X := by
  have e : uLst xs g = some (.obj g.length, g ++ [.lst xs]) := by unfold uLst; simp only [if_pos h]; rfl
  exact lift_some e q
theorem o_tup {xs : List U} (h : xs.length ≤ sizeLine) (q : Q (.obj g.length) (g ++ [.tup xs])) : (lift (uTup xs) g).sat Q X := by
  have e : uTup xs g = some (.obj g.length, g ++ [.tup xs]) := by unfold uTup; simp only [if_pos h]; rfl
  exact lift_some e q
theorem o_append {n : Nat} {xs : List U} {y : U} (h : g[n]? = some (.lst xs)) (hz : xs.length < sizeLine) (q : Q .non (g.set n (.lst (xs ++ [y])))) : (lift (uAppend (.obj n) [y]) g).sat Q X := by
  have e : uAppend (.obj n) [y] g = some (.non, g.set n (.lst (xs ++ [y]))) := by unfold uAppend; simp only [h, if_pos hz]; rfl
  exact lift_some e q
theorem isLst_of {n : Nat} {xs : List U} (h : g[n]? = some (.lst xs)) : isLstU (.obj n) g = true := by unfold isLstU; simp only [h]
theorem o_sl {n : Nat} {xs : List U} {lo hi : Option Int} (h : seqAt g n = some (false, xs)) (q : Q (.obj g.length) (g ++ [.lst (cutU xs lo hi)])) : (lift (uSl (.obj n) lo hi) g).sat Q X := by
  have e : uSl (.obj n) lo hi g = some (.obj g.length, g ++ [.lst (cutU xs lo hi)]) := by unfold uSl; simp only [h]; rfl
  exact lift_some e q
theorem o_list {n : Nat} {t : Bool} {xs : List U} (h : seqAt g n = some (t, xs)) (q : Q (.obj g.length) (g ++ [.lst xs])) : (lift (uList [.obj n]) g).sat Q X := by
  have e : uList [.obj n] g = some (.obj g.length, g ++ [.lst xs]) := by unfold uList; simp only [h]; rfl
  exact lift_some e q
theorem o_sum {n : Nat} {xs : List U} {is : List Int} (h : lstAt g n = some xs) (h2 : intsOf xs = some is) (q : Q (.int is.sum) g) : (lift (uSum [.obj n]) g).sat Q X := by
  have e : uSum [.obj n] g = some (.int is.sum, g) := by unfold uSum; simp only [h, Option.bind_some, h2]
  exact lift_some e q
theorem la_lst {n : Nat} {xs : List U} (h : g[n]? = some (.lst xs)) : lstAt g n = some xs := by unfold lstAt; rw [h]
theorem la_frz {n : Nat} {xs : List U} (h : g[n]? = some (.frz xs)) : lstAt g n = some xs := by unfold lstAt; rw [h]
theorem o_divmod {i j : Int} (h : 0 < j ∧ j < 1073741824) (q : Q (.obj g.length) (g ++ [.tup [.int (i / j), .int (i % j)]])) : (lift (uDivmod [.int i, .int j]) g).sat Q X := by
  have e : uDivmod [.int i, .int j] g = some (.obj g.length, g ++ [.tup [.int (i / j), .int (i % j)]]) := by unfold uDivmod; simp only [if_pos h]; rfl
  exact lift_some e q
theorem intsOf_map (l : List Int) : intsOf (l.map U.int) = some l := by
  induction l with
  | nil => rfl
  | cons x r ih => simp only [List.map_cons, intsOf, ih, Option.map_some]
/-! ### statements -/
variable {s s1 s2 : S}
theorem w_seq (h : (s1 τ g).sat (nxs D fun τ g => (s2 τ g).sat D)) : (sSeq s1 s2 τ g).sat D := by
  unfold sSeq
  cases e : s1 τ g <;> rw [e] at h <;> first | exact h.run | exact ⟨h.run⟩
theorem w_nx (q : D.nx τ g) : (sNx τ g).sat D := ⟨q⟩
theorem w_bk (q : D.bk τ g) : (sBk τ g).sat D := ⟨q⟩
theorem w_ct (q : D.ct τ g) : (sCt τ g).sat D := ⟨q⟩
theorem w_ex (h : (a τ g).sat (fun _ g => D.nx τ g) (fun c d g => D.ex c d τ g)) : (sEx a τ g).sat D := sat_bndS (h.mono (fun _ _ h => ⟨h⟩) fun _ _ _ h => h)
theorem w_rt (h : (a τ g).sat D.rt (fun c d g => D.ex c d τ g)) : (sRt a τ g).sat D := sat_bndS (h.mono (fun _ _ h => ⟨h⟩) fun _ _ _ h => h)
theorem w_rtN (q : D.rt .non g) : (sRtN τ g).sat D := ⟨q⟩
theorem w_if (h : (ta τ g).sat (fun k g => (k = true → (s1 τ g).sat D) ∧ (k = false → (s2 τ g).sat D)) (fun c d g => D.ex c d τ g)) : (sIf ta s1 s2 τ g).sat D :=
  sat_bndS (h.mono (fun k _ h => by cases k with | true => exact h.1 rfl | false => exact h.2 rfl) fun _ _ _ h => h)
theorem w_as {t : Tg} (h : (a τ g).sat (fun u g => ∃ τ', t (.one u) τ g = some τ' ∧ D.nx τ' g) (fun c d g => D.ex c d τ g)) : (sAs a t τ g).sat D :=
  sat_bndS (h.mono (fun u _ h => by obtain ⟨τ', e, h⟩ := h; rw [e]; exact ⟨h⟩) fun _ _ _ h => h)
theorem w_par {i j : Nat} (h : (aa τ g).sat (fun us g => ∃ x y, us = [x, y] ∧ D.nx ((τ.set i (some x)).set j (some y)) g) (fun c d g => D.ex c d τ g)) : (sPar i j aa τ g).sat D :=
  sat_bndS (h.mono (fun u _ h => by obtain ⟨x, y, rfl, h⟩ := h; exact ⟨h⟩) fun _ _ _ h => h)
theorem w_par3 {i j l : Nat} (h : (aa τ g).sat (fun us g => ∃ x y z, us = [x, y, z] ∧ D.nx (((τ.set i (some x)).set j (some y)).set l (some z)) g) (fun c d g => D.ex c d τ g)) : (sPar3 i j l aa τ g).sat D :=
  sat_bndS (h.mono (fun u _ h => by obtain ⟨x, y, z, rfl, h⟩ := h; exact ⟨h⟩) fun _ _ _ h => h)
theorem w_sub (h : (a τ g).sat (fun v g => (b τ g).sat (fun x g => (c τ g).sat (fun y g => ∃ g', uSet x y v g = some ((), g') ∧ D.nx τ g') (fun c d g => D.ex c d τ g)) (fun c d g => D.ex c d τ g)) (fun c d g => D.ex c d τ g)) : (sSub a b c τ g).sat D :=
  sat_bndS (h.mono (fun _ _ h => sat_bndS (h.mono (fun _ _ h => sat_bndS (h.mono (fun _ _ h => by obtain ⟨g', e, h⟩ := h; rw [e]; exact ⟨h⟩) fun _ _ _ h => h)) fun _ _ _ h => h)) fun _ _ _ h => h)
theorem set_at {n j : Nat} {xs : List U} {i : Int} {v : U} (h : g[n]? = some (.lst xs)) (hi : L2.ixN xs.length i = some j) : uSet (.obj n) (.int i) v g = some ((), g.set n (.lst (xs.set j v))) := by
  unfold uSet; simp only [h, hi]
theorem w_rz {k : Nat} {fl : List Nat} (h : (aa τ g).sat (fun us g => (us.length = fl.length ∧ us.length ≤ 1000) ∧ D.ex k (some g.length) τ (g ++ [.xd (fl.zip us).reverse])) (fun c d g => D.ex c d τ g)) : (sRz k fl aa τ g).sat D :=
  sat_bndS (h.mono (fun u _ h => by rw [if_pos h.1]; exact ⟨h.2⟩) fun _ _ _ h => h)
/-! ### loops -/
theorem w_for {it : I} {t : Tg} {body : S} (h : (it τ g).sat (fun w g => (forGo w t body w.len 0 τ g).sat D) (fun c d g => D.ex c d τ g)) : (sFor it t body τ g).sat D := sat_bndS h
/-- a loop by its invariant -/
theorem w_forGo {w : Wk} {t : Tg} {body : S} (Iv : Nat → Sl → G → Prop) (h0 : Iv 0 τ g) (hok : ∀ i τ g, i ≤ w.len → Iv i τ g → w.ok g = true)
    (hs : ∀ i τ g, i < w.len → Iv i τ g → ∃ itm τ1, w.item i = some itm ∧ t itm τ g = some τ1 ∧ (body τ1 g).sat (lps D (Iv (i + 1))))
    (he : ∀ τ g, Iv w.len τ g → D.nx τ g) : (forGo w t body w.len 0 τ g).sat D := by
  have key : ∀ n i τ g, i + n = w.len → Iv i τ g → (forGo w t body n i τ g).sat D := by
    intro n
    induction n with
    | zero =>
      intro i τ g hi hI
      have : i = w.len := by omega
      subst this
      unfold forGo
      rw [if_pos (hok _ _ _ (Nat.le_refl _) hI)]
      exact ⟨he _ _ hI⟩
    | succ n ih =>
      intro i τ g hi hI
      obtain ⟨itm, τ1, e1, e2, hb⟩ := hs i τ g (by omega) hI
      unfold forGo
      rw [if_pos (hok _ _ _ (by omega) hI), e1]
      simp only [e2]
      cases e : body τ1 g with
      | nx τ2 g2 => rw [e] at hb; exact ih (i + 1) τ2 g2 (by omega) hb.run
      | ct τ2 g2 => rw [e] at hb; exact ih (i + 1) τ2 g2 (by omega) hb.run
      | bk τ2 g2 => rw [e] at hb; exact ⟨hb.run⟩
      | rt u g2 => rw [e] at hb; exact ⟨hb.run⟩
      | ex c d τ2 g2 => rw [e] at hb; exact ⟨hb.run⟩
      | stuck => rw [e] at hb; exact hb.run.elim
  exact key w.len 0 τ g (by omega) h0
theorem w_rg1 (h : (aa τ g).sat (fun xs g => ∃ j, xs = [.int j] ∧ (-(2 ^ 62) ≤ j ∧ j < 2 ^ 62) ∧ QI (.rng 0 j.toNat) g) X) : (iRg1 aa τ g).sat QI X := sat_bnd (h.mono (fun xs _ h => by obtain ⟨j, rfl, h1, h⟩ := h; simp only [if_pos h1]; exact ⟨h⟩) fun _ _ _ h => h)
theorem w_rg2 (h : (aa τ g).sat (fun xs g => ∃ i j, xs = [.int i, .int j] ∧ (-(2 ^ 62) ≤ i ∧ i < 2 ^ 62 ∧ -(2 ^ 62) ≤ j ∧ j < 2 ^ 62) ∧ QI (.rng i (j - i).toNat) g) X) : (iRg2 aa τ g).sat QI X := sat_bnd (h.mono (fun xs _ h => by obtain ⟨i, j, rfl, h1, h⟩ := h; simp only [if_pos h1]; exact ⟨h⟩) fun _ _ _ h => h)
theorem w_iseq (h : (a τ g).sat (fun x g => ∃ n t xs, x = .obj n ∧ seqAt g n = some (t, xs) ∧ QI (.seq n t xs) g) X) : (iSeq a τ g).sat QI X := sat_bnd (h.mono (fun x _ h => by obtain ⟨n, t, xs, rfl, h1, h⟩ := h; simp only [h1]; exact ⟨h⟩) fun _ _ _ h => h)
/-- a comprehension by its invariant -/
theorem w_lc {it : I} {t : Tg} {tt : T} {te : E} {vs : List Nat} (h : (it τ g).sat (fun w g => (lcGo w t tt te (wipeU τ vs) w.len 0 [] g).sat (fun acc g => Q (.obj g.length) (g ++ [.lst acc])) X) X) : (eLc it t tt te vs τ g).sat Q X :=
  sat_bnd (h.mono (fun _ _ h => sat_bnd (h.mono (fun _ _ h => ⟨h⟩) fun _ _ _ h => h)) fun _ _ _ h => h)
theorem w_lcGo {w : Wk} {t : Tg} {tt : T} {te : E} (Iv : Nat → List U → G → Prop) (h0 : Iv 0 [] g) (hok : ∀ i l g, i ≤ w.len → Iv i l g → w.ok g = true) (hsz : w.len ≤ sizeLine)
    (hs : ∀ i l g, i < w.len → l.length ≤ i → Iv i l g → ∃ itm τ1, w.item i = some itm ∧ t itm τ g = some τ1 ∧ (tt τ1 g).sat (fun k g1 => (k = true → (te τ1 g1).sat (fun u g2 => Iv (i + 1) (l ++ [u]) g2) (fun _ _ _ => False)) ∧ (k = false → Iv (i + 1) l g1)) (fun _ _ _ => False))
    (he : ∀ l g, l.length ≤ w.len → Iv w.len l g → QA l g) : (lcGo w t tt te τ w.len 0 [] g).sat QA X := by
  have key : ∀ n i l g, i + n = w.len → l.length ≤ i → Iv i l g → (lcGo w t tt te τ n i l g).sat QA X := by
    intro n
    induction n with
    | zero =>
      intro i l g hi hl hI
      have : i = w.len := by omega
      subst this
      unfold lcGo
      rw [if_pos (hok _ _ _ (Nat.le_refl _) hI)]
      exact ⟨he _ _ hl hI⟩
    | succ n ih =>
      intro i l g hi hl hI
      obtain ⟨itm, τ1, e1, e2, hb⟩ := hs i l g (by omega) hl hI
      unfold lcGo
      rw [if_pos (hok _ _ _ (by omega) hI), e1]
      simp only [e2]
      cases e : tt τ1 g with
      | ok k g1 =>
        rw [e] at hb
        cases k with
        | true =>
          have hb := hb.run.1 rfl
          simp only
          cases e3 : te τ1 g1 with
          | ok u g2 =>
            rw [e3] at hb
            simp only
            rw [if_pos (by omega)]
            exact ih (i + 1) (l ++ [u]) g2 (by omega) (by simp; omega) hb.run
          | exc c d g2 => rw [e3] at hb; exact hb.run.elim
          | stuck => rw [e3] at hb; exact hb.run.elim
        | false => exact ih (i + 1) l g1 (by omega) (by omega) (hb.run.2 rfl)
      | exc c d g1 => rw [e] at hb; exact hb.run.elim
      | stuck => rw [e] at hb; exact hb.run.elim
  exact key w.len 0 [] g (by omega) (Nat.le_refl _) h0
/-! ### defs -/
theorem w_fn {n : Nat} {body : S} {us : List U} (h : (body (us.map some ++ List.replicate (n - us.length) none) g).sat (fps Q X)) : (fnM n body us g).sat Q X := by
  unfold fnM
  cases e : body (us.map some ++ List.replicate (n - us.length) none) g <;> rw [e] at h <;> exact ⟨h.run⟩
/-- what a call leaves is dropped, the old stands as it was -/
theorem w_gc {f : M U} (h : (f g).sat (fun u g' => refs g.length u = true ∧ (∃ l, g' = g ++ l) ∧ Q u g) X) : (gc f g).sat Q X := by
  unfold gc
  cases e : f g with
  | ok u g' =>
    rw [e] at h
    obtain ⟨h1, ⟨l, rfl⟩, h2⟩ := h.run
    have ok : gcOk g (g ++ l) u = true := by
      unfold gcOk
      simp only [Bool.and_eq_true, h1, true_and, List.all_eq_true, List.mem_range, Bool.or_eq_true, decide_eq_true_eq]
      exact ⟨by simp, fun i hi => .inl (List.getElem?_append_left hi)⟩
    simp only [if_pos ok]
    rw [List.take_left']
    · exact ⟨h2⟩
    · rfl
  | exc c d g' => rw [e] at h; exact ⟨h.run⟩
  | stuck => rw [e] at h; exact h.run.elim
/-- an object comes out -/
theorem w_gcN {f : M U} (h : (f g).sat (fun u g' => refs g.length u = false ∧ Q u g') X) : (gc f g).sat Q X := by
  unfold gc
  cases e : f g with
  | ok u g' =>
    rw [e] at h
    obtain ⟨h1, h2⟩ := h.run
    have ok : gcOk g g' u = false := by unfold gcOk; rw [h1]; rfl
    simp only [ok, Bool.false_eq_true, if_false]
    exact ⟨h2⟩
  | exc c d g' => rw [e] at h; exact ⟨h.run⟩
  | stuck => rw [e] at h; exact h.run.elim
/-- the state goes on as it is -/
theorem w_gcS {f : M U} (h : (f g).sat (fun u g' => g'.length = g.length ∧ Q u g') X) : (gc f g).sat Q X := by
  unfold gc
  cases e : f g with
  | ok u g' =>
    rw [e] at h
    obtain ⟨h1, h2⟩ := h.run
    simp only
    by_cases ok : gcOk g g' u = true
    · rw [if_pos ok, ← h1, List.take_length]; exact ⟨h2⟩
    · rw [if_neg ok]; exact ⟨h2⟩
  | exc c d g' => rw [e] at h; exact ⟨h.run⟩
  | stuck => rw [e] at h; exact h.run.elim
theorem br_t {A B : Prop} (h : A) : (true = true → A) ∧ (true = false → B) := ⟨fun _ => h, (fun e => nomatch e)⟩
theorem br_f {A B : Prop} (h : B) : (false = true → A) ∧ (false = false → B) := ⟨(fun e => nomatch e), fun _ => h⟩
theorem br_d {A B p : Prop} [Decidable p] (h1 : p → A) (h2 : ¬p → B) : (decide p = true → A) ∧ (decide p = false → B) := ⟨fun e => h1 (of_decide_eq_true e), fun e => h2 (of_decide_eq_false e)⟩
theorem br_nd {A B p : Prop} [Decidable p] (h1 : ¬p → A) (h2 : p → B) : ((!decide p) = true → A) ∧ ((!decide p) = false → B) := ⟨fun e => h1 (by simpa using e), fun e => h2 (by simpa using e)⟩
theorem br_nt {A B : Prop} (h : B) : ((!true) = true → A) ∧ ((!true) = false → B) := ⟨(fun e => nomatch e), fun _ => h⟩
theorem br_nf {A B : Prop} (h : A) : ((!false) = true → A) ∧ ((!false) = false → B) := ⟨fun _ => h, (fun e => nomatch e)⟩
theorem br_b {A B : Prop} {k : Bool} (h1 : k = true → A) (h2 : k = false → B) : (k = true → A) ∧ (k = false → B) := ⟨h1, h2⟩
theorem len2 {A : Prop} {a b c d : Nat} (h1 : a = b) (h2 : c = d) (h : A) : (a = b ∧ c = d) ∧ A := ⟨⟨h1, h2⟩, h⟩
theorem gT_one {n k : Nat} {us : List U} {ts : Tgs} {τ τ' : Sl} {g : G} (h : g[k]? = some (.tup us)) (hl : us.length = n) (e : ts us τ g = some τ') : gT n ts (.one (.obj k)) τ g = some τ' := by
  unfold gT; simp only [h, if_pos hl, e]
theorem lst_to {g : G} {A : Prop} {n : Nat} {xs : List U} (h : g[n]? = some (.lst xs)) (q : A) : isLstU (.obj n) g = true ∧ A := ⟨isLst_of h, q⟩
theorem ex_int {P : Int → Prop} {v : Int} (h : P v) : ∃ i, U.int v = U.int i ∧ P i := ⟨v, rfl, h⟩
theorem ex_rg1 {P : Int → Prop} {v : Int} (h1 : -(2 ^ 62) ≤ v ∧ v < 2 ^ 62) (h : P v) : ∃ j, [U.int v] = [U.int j] ∧ (-(2 ^ 62) ≤ j ∧ j < 2 ^ 62) ∧ P j := ⟨v, rfl, h1, h⟩
theorem ex_rg2 {P : Int → Int → Prop} {v w : Int} (h1 : -(2 ^ 62) ≤ v ∧ v < 2 ^ 62 ∧ -(2 ^ 62) ≤ w ∧ w < 2 ^ 62) (h : P v w) : ∃ i j, [U.int v, U.int w] = [U.int i, U.int j] ∧ (-(2 ^ 62) ≤ i ∧ i < 2 ^ 62 ∧ -(2 ^ 62) ≤ j ∧ j < 2 ^ 62) ∧ P i j := ⟨v, w, rfl, h1, h⟩
theorem ex_par {P : U → U → Prop} {x y : U} (h : P x y) : ∃ x' y', [x, y] = [x', y'] ∧ P x' y' := ⟨x, y, rfl, h⟩
theorem ex_par3 {P : U → U → U → Prop} {x y z : U} (h : P x y z) : ∃ x' y' z', [x, y, z] = [x', y', z'] ∧ P x' y' z' := ⟨x, y, z, rfl, h⟩
theorem ex_seq {g : G} {P : Nat → Bool → List U → Prop} {n : Nat} {t : Bool} {xs : List U} (h1 : seqAt g n = some (t, xs)) (h : P n t xs) : ∃ n' t xs, U.obj n = U.obj n' ∧ seqAt g n' = some (t, xs) ∧ P n' t xs := ⟨n, t, xs, rfl, h1, h⟩
theorem as_to {A : Sl → Prop} {t : Option Sl} {τ' : Sl} (h : t = some τ') (q : A τ') : ∃ τ', t = some τ' ∧ A τ' := ⟨τ', h, q⟩
theorem sub_to {A : G → Prop} {t : Option (Unit × G)} {g' : G} (h : t = some ((), g')) (q : A g') : ∃ g', t = some ((), g') ∧ A g' := ⟨g', h, q⟩
theorem chain_to {k : Bool} {A B : Prop} (h : (k = true → A) ∧ (k = false → B)) : ∃ k', (U.bl k) = .bl k' ∧ (k' = true → A) ∧ (k' = false → B) := ⟨k, rfl, h⟩
theorem pre_nil : ∃ l, g = g ++ l := ⟨[], by simp⟩
theorem pre_app {l : List O} {g0 : G} (h : ∃ l, g = g0 ++ l) : ∃ l', g ++ l = g0 ++ l' := by
  obtain ⟨l0, rfl⟩ := h; exact ⟨l0 ++ l, by simp⟩
end
end PM

set_option Elab.async false
set_option linter.all false
set_option maxRecDepth 100000
set_option autoImplicit false
namespace PM
open PySem
section
variable {α β : Type} {X : XP} {g g' : G} {τ : Sl} {D : Ps} {Q : U → G → Prop} {QA : List U → G → Prop} {aa : A} {a b : E}
/-- the old stands at the front -/
def Pre (g g' : G) : Prop := ∃ l, g' = g ++ l
theorem Pre.refl : Pre g g := ⟨[], by simp⟩
theorem Pre.app {l : List O} (h : Pre g g') : Pre g (g' ++ l) := by obtain ⟨k, rfl⟩ := h; exact ⟨k ++ l, by simp⟩
theorem Pre.trans {g1 : G} (h : Pre g g') (h2 : Pre g' g1) : Pre g g1 := by obtain ⟨k, rfl⟩ := h; obtain ⟨l, rfl⟩ := h2; exact ⟨k ++ l, by simp⟩
theorem Pre.get {n : Nat} {o : O} (h : Pre g g') (e : g[n]? = some o) : g'[n]? = some o := by obtain ⟨l, rfl⟩ := h; exact get_app e
theorem seq_pre {n : Nat} {t : Bool} {xs : List U} (h : Pre g g') (e : seqAt g n = some (t, xs)) : seqAt g' n = some (t, xs) := by
  unfold seqAt at e ⊢
  split at e
  · rename_i h1; rw [h.get h1]; exact e
  · rename_i h1; rw [h.get h1]; exact e
  · rename_i h1; rw [h.get h1]; exact e
  · cases e
theorem Pre.seq {n : Nat} {t : Bool} {xs : List U} (h : Pre g g') (e : seqAt g n = some (t, xs)) : seqAt g' n = some (t, xs) := seq_pre h e
theorem seq_app {l : List O} {n : Nat} {t : Bool} {xs : List U} (e : seqAt g n = some (t, xs)) : seqAt (g ++ l) n = some (t, xs) := seq_pre ⟨l, rfl⟩ e
theorem Pre.set {n : Nat} {o : O} (h : Pre g g') (hn : g.length ≤ n) : Pre g (g'.set n o) := by
  obtain ⟨l, rfl⟩ := h
  exact ⟨l.set (n - g.length) o, by rw [List.set_append_right _ _ hn]⟩
theorem Pre.le (h : Pre g g') : g.length ≤ g'.length := by obtain ⟨l, rfl⟩ := h; simp
/-- all but the objects of L stand as they were -/
def Kp (L : List Nat) (g g' : G) : Prop := g.length ≤ g'.length ∧ ∀ n o, n ∉ L → g[n]? = some o → g'[n]? = some o
theorem Kp.refl {L : List Nat} : Kp L g g := ⟨Nat.le_refl _, fun _ _ _ h => h⟩
theorem Kp.trans {L : List Nat} {g1 : G} (h : Kp L g g') (h2 : Kp L g' g1) : Kp L g g1 := ⟨Nat.le_trans h.1 h2.1, fun n o hn e => h2.2 n o hn (h.2 n o hn e)⟩
theorem Kp.pre {L : List Nat} (h : Pre g g') : Kp L g g' := ⟨h.le, fun _ _ _ e => h.get e⟩
theorem Kp.set {L : List Nat} {b : Nat} {o : O} (hb : b ∈ L) : Kp L g (g.set b o) := ⟨by simp, fun n o' hn e => get_set_ne (fun z => hn (z ▸ hb)) e⟩
theorem guardP {i j : Int} {p q : Nat} (h1 : i.natAbs < 2 ^ p) (h2 : j.natAbs < 2 ^ q) (h : p + q < 1000000) : i.natAbs.log2 + j.natAbs.log2 < 1000000 := by
  have := log2_small h1; have := log2_small h2; omega
theorem o_mulP {i j : Int} {p q : Nat} (h1 : i.natAbs < 2 ^ p) (h2 : j.natAbs < 2 ^ q) (h : p + q < 1000000) (k : Q (.int (i * j)) g) : (lift (uMul (.int i) (.int j)) g).sat Q X :=
  o_mul (by have := log2_small h1; have := log2_small h2; omega) k
theorem o_mulT {n N : Nat} {x : U} {k : Int} (h : g[n]? = some (.tup [x])) (hk : 0 ≤ k ∧ k ≤ 1000) (hn : N ≤ n) (q : ∀ m l, N ≤ m → (g ++ l)[m]? = some (.tup (List.replicate k.toNat x)) → Q (.obj m) (g ++ l)) : (lift (uMul (.obj n) (.int k)) g).sat Q X := by
  by_cases h1 : k = 1
  · subst h1
    have e : uMul (.obj n) (.int 1) g = some (.obj n, g) := by unfold uMul; simp only [h]; rfl
    refine lift_some e ?_
    have := q n [] hn
    rw [List.append_nil] at this
    exact this h
  · by_cases h0 : k ≤ 0
    · have k0 : k = 0 := by omega
      subst k0
      have e : uMul (.obj n) (.int 0) g = some (.obj g.length, g ++ [.tup []]) := by unfold uMul; simp only [h]; rfl
      exact lift_some e (q _ _ (by have := lt_of_get h; omega) get_last)
    · have e : uMul (.obj n) (.int k) g = some (.obj g.length, g ++ [.tup (List.replicate k.toNat x)]) := by
        unfold uMul
        simp only [h]
        rw [if_neg (by simp; omega), if_neg h0, if_pos (by simp; omega)]
        have : (List.replicate k.toNat [x]).flatten = List.replicate k.toNat x := by
          induction k.toNat with
          | zero => rfl
          | succ n ih => simp only [List.replicate_succ, List.flatten_cons, ih]; rfl
        rw [this]; rfl
      exact lift_some e (q _ _ (by have := lt_of_get h; omega) get_last)
theorem o_addT {n m N : Nat} {xs ys : List U} (h : g[n]? = some (.tup xs)) (h2 : g[m]? = some (.tup ys)) (hz : xs.length + ys.length ≤ sizeLine) (hn : N ≤ n) (hm : N ≤ m) (q : ∀ k l, N ≤ k → (g ++ l)[k]? = some (.tup (xs ++ ys)) → Q (.obj k) (g ++ l)) : (lift (uAdd (.obj n) (.obj m)) g).sat Q X := by
  cases xs with
  | nil =>
    have e : uAdd (.obj n) (.obj m) g = some (.obj m, g) := by unfold uAdd; simp only [h, h2, if_pos hz]
    refine lift_some e ?_
    have := q m [] hm
    rw [List.append_nil] at this
    exact this h2
  | cons x xs =>
    cases ys with
    | nil =>
      have e : uAdd (.obj n) (.obj m) g = some (.obj n, g) := by unfold uAdd; simp only [h, h2, if_pos hz]
      refine lift_some e ?_
      have := q n [] hn
      rw [List.append_nil, List.append_nil] at this
      exact this h
    | cons y ys =>
      have e : uAdd (.obj n) (.obj m) g = some (.obj g.length, g ++ [.tup (x :: xs ++ y :: ys)]) := by unfold uAdd; simp only [h, h2, if_pos hz]; rfl
      exact lift_some e (q _ _ (by have := lt_of_get h; omega) get_last)
theorem o_addL {n m : Nat} {xs ys : List U} (h : g[n]? = some (.lst xs)) (h2 : g[m]? = some (.lst ys)) (hz : xs.length + ys.length ≤ sizeLine) (q : Q (.obj g.length) (g ++ [.lst (xs ++ ys)])) : (lift (uAdd (.obj n) (.obj m)) g).sat Q X := by
  have e : uAdd (.obj n) (.obj m) g = some (.obj g.length, g ++ [.lst (xs ++ ys)]) := by unfold uAdd; simp only [h, h2, if_pos hz]; rfl
  exact lift_some e q
theorem o_mulL {n : Nat} {xs : List U} {k : Int} (h : g[n]? = some (.lst xs)) (hk : -(2 ^ 63) ≤ k ∧ k < 2 ^ 63 ∧ xs.length * k.toNat ≤ sizeLine) (q : Q (.obj g.length) (g ++ [.lst (List.replicate k.toNat xs).flatten])) : (lift (uMul (.obj n) (.int k)) g).sat Q X := by
  have e : uMul (.obj n) (.int k) g = some (.obj g.length, g ++ [.lst (List.replicate k.toNat xs).flatten]) := by unfold uMul; simp only [h, if_pos hk]; rfl
  exact lift_some e q
theorem o_maxL {n : Nat} {xs : List U} {i : Int} {r : List Int} (h : lstAt g n = some xs) (h2 : intsOf xs = some (i :: r)) (q : Q (.int (maxL i r)) g) : (lift (uMax [.obj n]) g).sat Q X := by
  have e : uMax [.obj n] g = some (.int (maxL i r), g) := by unfold uMax; simp only [h, Option.bind_some, h2]
  exact lift_some e q
theorem o_eq_nil {n m : Nat} (h : g[n]? = some (.lst [])) (h2 : g[m]? = some (.lst [])) (q : Q (.bl true) g) : (lift (uEq (.obj n) (.obj m)) g).sat Q X := by
  have e1 : ∀ k : Nat, g[k]? = some (.lst []) → toD g 20 (.obj k) = some (.list []) := fun k hk => by
    unfold toD
    simp only [sq_lst hk]
    rfl
  have e : uEq (.obj n) (.obj m) g = some (.bl true, g) := by
    unfold uEq uEqG
    rw [if_neg (by simp [scalU])]
    unfold eqD
    rw [e1 n h, e1 m h2]
    rfl
  exact lift_some e q
theorem w_try {sub : Nat → Nat → Bool} {s : S} {hs : List Hd} (h : (s τ g).sat { nx := D.nx, rt := D.rt, bk := D.bk, ct := D.ct, ex := fun c d τ g => (tryGo sub hs c d τ g).sat D }) : (sTry sub s hs τ g).sat D := by
  unfold sTry
  cases e : s τ g <;> rw [e] at h <;> first | exact h.run | exact ⟨h.run⟩
theorem try_none {sub : Nat → Nat → Bool} {c : Nat} {d : Option Nat} (q : D.ex c d τ g) : (tryGo sub [] c d τ g).sat D := ⟨q⟩
theorem try_skip {sub : Nat → Nat → Bool} {c c' : Nat} {d : Option Nat} {io : Option Nat} {s : Nat → Nat → S} {r : List Hd} (h : sub c c' = false) (q : (tryGo sub r c d τ g).sat D) : (tryGo sub ((c', io, s) :: r) c d τ g).sat D := by
  cases io with
  | none => unfold tryGo; rw [if_neg (by rw [h]; exact Bool.false_ne_true)]; exact q
  | some i => unfold tryGo; rw [if_neg (by rw [h]; exact Bool.false_ne_true)]; exact q
theorem try_plain {sub : Nat → Nat → Bool} {c c' : Nat} {d : Option Nat} {s : Nat → Nat → S} {r : List Hd} (h : sub c c' = true) (q : (s c 0 τ g).sat { nx := D.nx, rt := D.rt, bk := D.bk, ct := D.ct, ex := fun _ _ _ _ => False }) : (tryGo sub ((c', none, s) :: r) c d τ g).sat D := by
  unfold tryGo
  rw [if_pos h]
  cases e : s c 0 τ g <;> rw [e] at q <;> first | exact q.run.elim | exact ⟨q.run⟩
theorem try_named {sub : Nat → Nat → Bool} {c c' i n : Nat} {s : Nat → Nat → S} {r : List Hd} (h : sub c c' = true) (hi : i < τ.length) (q : (s c n (τ.set i none) g).sat { nx := fun τ g => D.nx (τ.set i none) g, rt := D.rt, bk := fun τ g => D.bk (τ.set i none) g, ct := fun τ g => D.ct (τ.set i none) g, ex := fun _ _ _ _ => False }) : (tryGo sub ((c', some i, s) :: r) c (some n) τ g).sat D := by
  unfold tryGo
  rw [if_pos h]
  simp only [if_pos hi]
  cases e : s c n (τ.set i none) g <;> rw [e] at q <;> first | exact q.run.elim | exact ⟨q.run⟩
theorem w_xat {n f : Nat} {fs : List (Nat × U)} {u : U} (h : g[n]? = some (.xd fs)) (h2 : fs.lookup f = some u) (q : Q u g) : (eXat n f τ g).sat Q X := by
  have e : eXat n f τ g = .ok u g := by unfold eXat; simp only [h, h2]
  rw [e]; exact ⟨q⟩
theorem atU_nat {xs : List U} {i : Nat} {u : U} (h : xs[i]? = some u) : atU xs (i : Int) = some u := by
  unfold atU; rw [if_pos (by omega), Int.toNat_natCast]; exact h
theorem atU_nat0 {xs : List U} {i : Nat} {u : U} (h : xs[i]? = some u) : atU xs (0 + (i : Int)) = some u := by rw [Int.zero_add]; exact atU_nat h
theorem get_map {l : List Int} {i : Nat} (h : i < l.length) : (l.map U.int)[i]? = some (.int l[i]) := by rw [List.getElem?_map, List.getElem?_eq_getElem h]; rfl
theorem w_gcB {f : M U} (h : (f g).sat (fun u g' => Q u g' ∧ (refs g.length u = true → Q u (g'.take g.length))) X) : (gc f g).sat Q X := by
  unfold gc
  cases e : f g with
  | ok u g' =>
    rw [e] at h
    obtain ⟨h1, h2⟩ := h.run
    simp only
    by_cases ok : gcOk g g' u = true
    · rw [if_pos ok]
      refine ⟨h2 ?_⟩
      unfold gcOk at ok
      simp only [Bool.and_eq_true] at ok
      exact ok.1.1
    · rw [if_neg ok]; exact ⟨h1⟩
  | exc c d g' => rw [e] at h; exact ⟨h.run⟩
  | stuck => rw [e] at h; exact h.run.elim
theorem w_dct0 (q : Q (.obj g.length) (g ++ [.dct []])) : (eDct0 τ g).sat Q X := ⟨q⟩
theorem o_dict1 {n p : Nat} {k w : U} {key : L2.Key} (h : g[n]? = some (.lst [.obj p])) (h2 : g[p]? = some (.tup [k, w])) (h3 : keyU k = some key) (q : Q (.obj g.length) (g ++ [.dct [(key, w)]])) : (lift (uDict [.obj n]) g).sat Q X := by
  have e : uDict [.obj n] g = some (.obj g.length, g ++ [.dct [(key, w)]]) := by
    unfold uDict
    simp only [h, pairsU, h2, h3, Option.bind_some]
    rfl
  exact lift_some e q
theorem atU_nat1 {xs : List U} {i : Nat} {u : U} (h : xs[i + 1]? = some u) : atU xs (0 + (i : Int) + 1) = some u := by
  have := atU_nat h
  rw [← this]; congr 1; omega
theorem get_mapD {l : List Int} {i : Nat} (h : i < l.length) : (l.map U.int)[i]? = some (.int (l.getD i 0)) := by rw [get_map h, List.getD_eq_getElem?_getD, List.getElem?_eq_getElem h]; rfl
theorem atU_last {xs : List U} {n : Nat} {u : U} (hl : xs.length = n + 1) (h : xs[n]? = some u) : atU xs (-1) = some u := by
  unfold atU
  rw [if_neg (by omega), if_pos (by omega), hl]
  rw [show ((-1 : Int) + ((n + 1 : Nat) : Int)).toNat = n by omega]
  exact h
/-! ### comprehensions over plain items -/
theorem w_lc_pure {w : Wk} {t : Tg} {te : E} (f : Nat → U) (hok : w.ok g = true) (hsz : w.len ≤ sizeLine)
    (hs : ∀ i, i < w.len → ∃ itm τ1, w.item i = some itm ∧ t itm τ g = some τ1 ∧ (te τ1 g).sat (fun u g' => u = f i ∧ g' = g) (fun _ _ _ => False)) (q : QA ((List.range w.len).map f) g) : (lcGo w t tYs te τ w.len 0 [] g).sat QA X := by
  refine w_lcGo (fun i l g' => g' = g ∧ l = (List.range i).map f) ⟨rfl, rfl⟩ (fun i l g' _ h => by rw [h.1]; exact hok) hsz (fun i l g' hi hl h => ?_) (fun l g' _ h => ?_)
  · obtain ⟨rfl, rfl⟩ := h
    obtain ⟨itm, τ1, e1, e2, h3⟩ := hs i hi
    refine ⟨itm, τ1, e1, e2, show (Res.ok true _).sat _ _ from ⟨⟨fun _ => h3.mono (fun u g2 h4 => ⟨h4.2, ?_⟩) (fun _ _ _ h => h), fun z => nomatch z⟩⟩⟩
    rw [h4.1, List.range_succ, List.map_append]; rfl
  · obtain ⟨rfl, rfl⟩ := h; exact q
theorem w_tYs {QT : Bool → G → Prop} (q : QT true g) : (tYs τ g).sat QT X := ⟨q⟩
theorem w_lc_nil {w : Wk} {t : Tg} {tt : T} {te : E} {i : Nat} {acc : List U} (hok : w.ok g = true) (q : QA acc g) : (lcGo w t tt te τ 0 i acc g).sat QA X := by
  unfold lcGo; rw [if_pos hok]; exact ⟨q⟩
theorem w_lc_cons {w : Wk} {t : Tg} {tt : T} {te : E} {i n : Nat} {acc : List U} {itm : Itm} {τ1 : Sl} (hok : w.ok g = true) (e1 : w.item i = some itm) (e2 : t itm τ g = some τ1) (hz : acc.length < sizeLine)
    (h : (tt τ1 g).sat (fun k g1 => (k = true → (te τ1 g1).sat (fun u g2 => (lcGo w t tt te τ n (i + 1) (acc ++ [u]) g2).sat QA X) (fun _ _ _ => False)) ∧ (k = false → (lcGo w t tt te τ n (i + 1) acc g1).sat QA X)) (fun _ _ _ => False)) : (lcGo w t tt te τ (n + 1) i acc g).sat QA X := by
  unfold lcGo
  rw [if_pos hok, e1]
  simp only [e2]
  cases e : tt τ1 g with
  | ok k g1 =>
    rw [e] at h
    cases k with
    | true =>
      have hb := h.run.1 rfl
      simp only
      cases e3 : te τ1 g1 with
      | ok u g2 => rw [e3] at hb; simp only; rw [if_pos hz]; exact hb.run
      | exc c d g2 => rw [e3] at hb; exact hb.run.elim
      | stuck => rw [e3] at hb; exact hb.run.elim
    | false => exact h.run.2 rfl
  | exc c d g1 => rw [e] at h; exact h.run.elim
  | stuck => rw [e] at h; exact h.run.elim
theorem w_for_nil {w : Wk} {t : Tg} {body : S} {i : Nat} (hok : w.ok g = true) (q : D.nx τ g) : (forGo w t body 0 i τ g).sat D := by
  unfold forGo; rw [if_pos hok]; exact ⟨q⟩
theorem w_for_cons {w : Wk} {t : Tg} {body : S} {i n : Nat} {itm : Itm} {τ1 : Sl} (hok : w.ok g = true) (e1 : w.item i = some itm) (e2 : t itm τ g = some τ1)
    (h : (body τ1 g).sat (lps D fun τ g => (forGo w t body n (i + 1) τ g).sat D)) : (forGo w t body (n + 1) i τ g).sat D := by
  unfold forGo
  rw [if_pos hok, e1]
  simp only [e2]
  cases e : body τ1 g <;> rw [e] at h <;> first | exact h.run | exact ⟨h.run⟩
/-- a comprehension whose test is never met -/
theorem w_lc_none {w : Wk} {t : Tg} {tt : T} {te : E} (hok : w.ok g = true) (hsz : w.len ≤ sizeLine)
    (hs : ∀ i, i < w.len → ∃ itm τ1, w.item i = some itm ∧ t itm τ g = some τ1 ∧ (tt τ1 g).sat (fun k g' => k = false ∧ g' = g) (fun _ _ _ => False)) (q : QA [] g) : (lcGo w t tt te τ w.len 0 [] g).sat QA X := by
  refine w_lcGo (fun i l g' => g' = g ∧ l = []) ⟨rfl, rfl⟩ (fun i l g' _ h => by rw [h.1]; exact hok) hsz (fun i l g' hi hl h => ?_) (fun l g' _ h => ?_)
  · obtain ⟨rfl, rfl⟩ := h
    obtain ⟨itm, τ1, e1, e2, h3⟩ := hs i hi
    exact ⟨itm, τ1, e1, e2, h3.mono (fun k g2 h4 => ⟨fun z => (by rw [h4.1] at z; cases z), fun _ => ⟨h4.2, rfl⟩⟩) (fun _ _ _ h => h)⟩
  · obtain ⟨rfl, rfl⟩ := h; exact q
/-- the same where the test leaves things behind -/
theorem w_lc_none' {w : Wk} {t : Tg} {tt : T} {te : E} (hok : ∀ g', Pre g g' → w.ok g' = true) (hsz : w.len ≤ sizeLine)
    (hs : ∀ i g', i < w.len → Pre g g' → ∃ itm τ1, w.item i = some itm ∧ t itm τ g' = some τ1 ∧ (tt τ1 g').sat (fun k g2 => k = false ∧ Pre g g2) (fun _ _ _ => False)) (q : ∀ g', Pre g g' → QA [] g') : (lcGo w t tt te τ w.len 0 [] g).sat QA X := by
  refine w_lcGo (fun i l g' => Pre g g' ∧ l = []) ⟨.refl, rfl⟩ (fun i l g' _ h => hok _ h.1) hsz (fun i l g' hi hl h => ?_) (fun l g' _ h => ?_)
  · obtain ⟨h1, rfl⟩ := h
    obtain ⟨itm, τ1, e1, e2, h3⟩ := hs i g' hi h1
    exact ⟨itm, τ1, e1, e2, h3.mono (fun k g2 h4 => ⟨fun z => (by rw [h4.1] at z; cases z), fun _ => ⟨h4.2, rfl⟩⟩) (fun _ _ _ h => h)⟩
  · obtain ⟨h1, rfl⟩ := h; exact q _ h1
end
/-! ## binomials -/
def bin : Nat → Nat → Nat
  | _, 0 => 1
  | 0, _ + 1 => 0
  | n + 1, k + 1 => bin n k + bin n (k + 1)
theorem bin_zero (n : Nat) : bin n 0 = 1 := by cases n <;> rfl
theorem bin_big : ∀ (n k : Nat), n < k → bin n k = 0
  | 0, k + 1, _ => rfl
  | n + 1, k + 1, h => by
    unfold bin
    rw [bin_big n k (by omega), bin_big n (k + 1) (by omega)]
theorem bin_mul : ∀ (n k : Nat), bin n (k + 1) * (k + 1) = bin n k * (n - k)
  | 0, 0 => rfl
  | 0, k + 1 => by simp [bin]
  | n + 1, 0 => by
    have := bin_mul n 0
    rw [bin_zero] at this
    simp only [bin, bin_zero]
    omega
  | n + 1, k + 1 => by
    have h1 := bin_mul n k
    have h2 := bin_mul n (k + 1)
    show (bin n (k + 1) + bin n (k + 2)) * (k + 2) = (bin n k + bin n (k + 1)) * (n + 1 - (k + 1))
    rw [Nat.add_sub_add_right, Nat.add_mul, Nat.add_mul, ← h1, show bin n (k + 2) * (k + 2) = bin n (k + 1) * (n - (k + 1)) from h2, ← Nat.mul_add, ← Nat.mul_add]
    by_cases hk : k + 1 ≤ n
    · congr 1; omega
    · by_cases hk2 : k + 1 = n + 1
      · have : k = n := by omega
        subst this
        rw [bin_big k (k + 1) (by omega)]; simp
      · rw [bin_big n (k + 1) (by omega)]; simp
theorem bin_le : ∀ (n k : Nat), bin n k ≤ 2 ^ n
  | n, 0 => by rw [bin_zero]; exact Nat.one_le_two_pow
  | 0, k + 1 => by simp [bin]
  | n + 1, k + 1 => by
    have h1 := bin_le n k
    have h2 := bin_le n (k + 1)
    unfold bin
    rw [Nat.pow_succ]; omega
theorem bin_step (n k : Nat) (h : k ≤ n) : ((bin n k : Int) * ((n : Int) - k)) / ((k : Int) + 1) = (bin n (k + 1) : Int) := by
  have h1 := bin_mul n k
  have h2 : (bin n k : Int) * ((n : Int) - k) = (bin n (k + 1) : Int) * ((k : Int) + 1) := by
    rw [← Int.ofNat_sub h]
    exact_mod_cast h1.symm
  rw [h2, Int.mul_ediv_cancel _ (by omega)]
theorem bin_step' (n k : Nat) (h : k ≤ n) : ((bin n k : Int) * ((n : Int) - (0 + (k : Int)))) / (0 + (k : Int) + 1) = (bin n (k + 1) : Int) := by
  rw [Int.zero_add]; exact bin_step n k h
/-! ## even parts -/
def evenL (t m : Nat) : List Nat := List.replicate (t % m) (t / m + 1) ++ List.replicate (m - t % m) (t / m)
theorem evenL_len {t m : Nat} (h : 0 < m) : (evenL t m).length = m := by
  unfold evenL
  have := Nat.mod_lt t h
  rw [List.length_append, List.length_replicate, List.length_replicate]; omega
theorem evenL_sum {t m : Nat} (h : 0 < m) : (evenL t m).sum = t := by
  unfold evenL
  have h1 := Nat.mod_lt t h
  have h2 := Nat.div_add_mod t m
  have rs : ∀ n x : Nat, (List.replicate n x).sum = n * x := fun n x => by
    induction n with
    | zero => simp
    | succ n ih => rw [List.replicate_succ, List.sum_cons, ih, Nat.succ_mul, Nat.add_comm]
  rw [List.sum_append, rs, rs, Nat.mul_add, Nat.mul_one, Nat.sub_mul]
  have h3 : (t % m) * (t / m) ≤ m * (t / m) := Nat.mul_le_mul_right _ (Nat.le_of_lt h1)
  omega
end PM

set_option Elab.async false
set_option linter.all false
set_option maxRecDepth 100000
set_option autoImplicit false
namespace K50
open PM PySem
def subT : Nat → Nat → Bool := subOf 3 [[true, false, true], [false, true, true], [false, false, true]]
def b__law_most : S :=
  (sSeq (sAs (eN uLst (aCons (eN uLst (aCons (eC (.int 1)) aNil)) aNil)) (gN 0))
  (sSeq (sFor (iRg1 (aCons (eC (.int 16)) aNil)) (gN 1)
  (sSeq (sAs (eBin uIdx (eVar 0) (eUn uNeg (eC (.int 1)))) (gN 2))
  (sEx (eMe isLstU uAppend (eVar 0) (aCons (eBin uAdd (eBin uAdd (eN uLst (aCons (eC (.int 1)) aNil)) (eLc (iRg1 (aCons (eVar 1) aNil)) (gN 3) tYs (eBin uAdd (eBin uIdx (eVar 2) (eVar 3)) (eBin uIdx (eVar 2) (eBin uAdd (eVar 3) (eC (.int 1))))) [3])) (eN uLst (aCons (eC (.int 1)) aNil))) aNil)))))
  (sSeq (sAs (eN uLst (aCons (eBin uAdd (eN uLst (aCons (eC (.int 1)) aNil)) (eBin uMul (eN uLst (aCons (eC (.int 0)) aNil)) (eC (.int 16)))) aNil)) (gN 4))
  (sSeq (sFor (iRg1 (aCons (eC (.int 18)) aNil)) (gN 3)
  (sEx (eMe isLstU uAppend (eVar 4) (aCons (eLc (iRg1 (aCons (eC (.int 17)) aNil)) (gN 1) tYs (eN uMax (aCons (eLc (iRg1 (aCons (eBin uAdd (eVar 1) (eC (.int 1))) aNil)) (gN 5) tYs (eBin uMul (eBin uIdx (eBin uIdx (eVar 0) (eVar 1)) (eVar 5)) (eBin uIdx (eBin uIdx (eVar 4) (eUn uNeg (eC (.int 1)))) (eBin uSub (eVar 1) (eVar 5)))) [5]) aNil)) [1]) aNil))))
  (sRt (eVar 4))))))
def f__law_most : List U → M U := fun us => gc (fnM 6 b__law_most us)
def b__law_box : S :=
  (sRt (eN uLst (aCons (eN uAbs (aCons (eVar 0) aNil)) (aCons (eBin uGe (eN uAbs (aCons (eVar 0) aNil)) (eBin uPow (eC (.int 10)) (eC (.int 18)))) (aCons (eBin uMod (eN uInt (aCons (eN uAbs (aCons (eVar 0) aNil)) aNil)) (eC (.int 2147483629))) (aCons (eC (.int 0)) aNil))))))
def f__law_box : List U → M U := fun us => gc (fnM 1 b__law_box us)
def b__law_cell : S :=
  (sRt (eIf (tE (eBin uLt (eVar 1) (eN uLen (aCons (eVar 0) aNil)))) (eBin uIdx (eVar 0) (eVar 1)) (eBin uAdd (eBin uMul (eC (.int 6007)) (eVar 1)) (eBin uMod (eN uInt (aCons (eN uSum (aCons (eSl uSl (eVar 0) pNo (pSo (eC (.int 1)))) aNil)) aNil)) (eC (.int 1000033))))))
def f__law_cell : List U → M U := fun us => gc (fnM 2 b__law_cell us)
def b__law_take : S :=
  (sSeq (sIf (tAn (tE (eBin uIdx (eVar 0) (eC (.int 1)))) (tE (eBin uGt (eBin uIdx (eVar 0) (eC (.int 0))) (eC (.int 0)))))
  (sSeq (sAs (eBin uMod (eN uInt (aCons (eBin uIdx (eVar 0) (eC (.int 0))) aNil)) (eVar 1)) (gN 2))
  (sSeq (sSub (eBin uFdiv (eBin uIdx (eVar 0) (eC (.int 0))) (eVar 1)) (eVar 0) (eC (.int 0)))
  (sRt (eVar 2))))
  sNx)
  (sSeq (sSub (eBin uAdd (eBin uIdx (eVar 0) (eC (.int 3))) (eC (.int 1))) (eVar 0) (eC (.int 3)))
  (sSeq (sAs (eBin uMod (eN uInt (aCons (eBin uPow (eBin uAdd (eBin uAdd (eBin uIdx (eVar 0) (eC (.int 2))) (eBin uMul (eC (.int 15485863)) (eBin uIdx (eVar 0) (eC (.int 3))))) (eC (.int 179424673))) (eC (.int 5))) aNil)) (eC (.int 2147483647))) (gN 3))
  (sRt (eBin uMod (eN uInt (aCons (eBin uFdiv (eBin uMod (eN uInt (aCons (eBin uPow (eBin uAdd (eBin uMul (eVar 3) (eC (.int 48271))) (eBin uMul (eC (.int 104729)) (eBin uIdx (eVar 0) (eC (.int 3))))) (eC (.int 3))) aNil)) (eC (.int 2147483587))) (eC (.int 64))) aNil)) (eVar 1))))))
def f__law_take : List U → M U := fun us => gc (fnM 4 b__law_take us)
def b__law_is_good : S :=
  (sRt (eAnd (eUn (uIsI [.int]) (eVar 0)) (eAnd (eNo (eUn (uIsI [.bool]) (eVar 0))) (eChain uLe uLe (eC (.int 2)) (eVar 0) (eC (.int 16))))))
def f__law_is_good : List U → M U := fun us => gc (fnM 1 b__law_is_good us)
def b_is_whole : S :=
  (sRt (eAnd (eUn (uIsI [.int]) (eVar 0)) (eNo (eUn (uIsI [.bool]) (eVar 0)))))
def f_is_whole : List U → M U := fun us => gc (fnM 1 b_is_whole us)
def b_is_between : S :=
  (sRt (eAnd (eG 1 0 (fun us _ => f_is_whole us) (aCons (eVar 0) aNil) aNil) (eChain uLe uLe (eVar 1) (eVar 0) (eVar 2))))
def f_is_between : List U → M U := fun us => gc (fnM 3 b_is_between us)
def b_check_both : S :=
  (sSeq (sIf (tNo (tE (eG 3 0 (fun us _ => f_is_between us) (aCons (eVar 0) (aCons (eC (.int 2)) (aCons (eVar 2) aNil))) aNil)))
  (sRz 0 [0] (aCons (eVar 0) aNil))
  sNx)
  (sIf (tNo (tE (eG 3 0 (fun us _ => f_is_between us) (aCons (eVar 1) (aCons (eC (.int 2)) (aCons (eVar 2) aNil))) aNil)))
  (sRz 1 [0] (aCons (eVar 1) aNil))
  sNx))
def f_check_both : List U → M U := fun us => gc (fnM 3 b_check_both us)
def b_choose_of : S :=
  (sSeq (sAs (eC (.int 1)) (gN 2))
  (sSeq (sFor (iRg1 (aCons (eVar 1) aNil)) (gN 3)
  (sAs (eBin uFdiv (eBin uMul (eVar 2) (eBin uSub (eVar 0) (eVar 3))) (eBin uAdd (eVar 3) (eC (.int 1)))) (gN 2)))
  (sRt (eVar 2))))
def f_choose_of : List U → M U := fun us => gc (fnM 4 b_choose_of us)
def b_arrangements_of : S :=
  (sSeq (sAs (eN uTup (aCons (eC (.int 1)) (aCons (eC (.int 0)) aNil))) (gT 2 (gsC (gN 1) (gsC (gN 2) gsN))))
  (sSeq (sFor (iSeq (eVar 0)) (gN 3)
  (sSeq (sAs (eBin uAdd (eVar 2) (eVar 3)) (gN 2))
  (sAs (eBin uMul (eVar 1) (eG 2 0 (fun us _ => f_choose_of us) (aCons (eVar 2) (aCons (eVar 3) aNil)) aNil)) (gN 1))))
  (sRt (eVar 1))))
def f_arrangements_of : List U → M U := fun us => gc (fnM 4 b_arrangements_of us)
def b_even_parts_of : S :=
  (sSeq (sAs (eN uDivmod (aCons (eVar 0) (aCons (eVar 1) aNil))) (gT 2 (gsC (gN 2) (gsC (gN 3) gsN))))
  (sRt (eBin uAdd (eBin uMul (eN uTup (aCons (eBin uAdd (eVar 2) (eC (.int 1))) aNil)) (eVar 3)) (eBin uMul (eN uTup (aCons (eVar 2) aNil)) (eBin uSub (eVar 1) (eVar 3))))))
def f_even_parts_of : List U → M U := fun us => gc (fnM 4 b_even_parts_of us)
def b_most_told : S :=
  (sRt (eG 1 0 (fun us _ => f_arrangements_of us) (aCons (eG 2 0 (fun us _ => f_even_parts_of us) (aCons (eVar 0) (aCons (eVar 1) aNil)) aNil) aNil) aNil))
def f_most_told : List U → M U := fun us => gc (fnM 2 b_most_told us)
def b_both_of : S :=
  (sSeq (sAs (eIf (tE (eVar 2)) (eC (.int 1)) (eC (.int 2))) (gN 3))
  (sRt (eN uTup (aCons (eG 2 0 (fun us _ => f_most_told us) (aCons (eVar 0) (aCons (eBin uAdd (eVar 1) (eVar 3)) aNil)) aNil) (aCons (eG 2 0 (fun us _ => f_most_told us) (aCons (eVar 1) (aCons (eBin uAdd (eVar 0) (eVar 3)) aNil)) aNil) aNil)))))
def f_both_of : List U → M U := fun us => gc (fnM 4 b_both_of us)
def b_both_known : S :=
  (sSeq (sEx (eG 3 0 (fun us _ => f_check_both us) (aCons (eVar 0) (aCons (eVar 1) (aCons (eC (.int 16)) aNil))) aNil))
  (sRt (eG 3 0 (fun us _ => f_both_of us) (aCons (eVar 0) (aCons (eVar 1) (aCons (eC (.bl true)) aNil))) aNil)))
def f_both_known : List U → M U := fun us => gc (fnM 2 b_both_known us)
def b_both : S :=
  (sSeq (sEx (eG 3 0 (fun us _ => f_check_both us) (aCons (eVar 0) (aCons (eVar 1) (aCons (eC (.int 16)) aNil))) aNil))
  (sRt (eG 3 0 (fun us _ => f_both_of us) (aCons (eVar 0) (aCons (eVar 1) (aCons (eC (.bl false)) aNil))) aNil)))
def f_both : List U → M U := fun us => gc (fnM 2 b_both us)
def b__law_told : S :=
  (sTry subT (sSeq (sIf (tE (eVar 0))
  (sRt (eN uTup (aCons (eC (.str "told")) (aCons (eIf (tE (eBin uEq (eVar 1) (eC (.int 0)))) (eG 2 0 (fun us _ => f_both_known us) (aCons (eVar 2) (aCons (eVar 3) aNil)) aNil) (eG 0 2 (fun us ys => f_both_known (pick .non [1, 0] (us ++ ys))) aNil (aCons (eVar 3) (aCons (eVar 2) aNil)))) aNil))))
  sNx)
  (sRt (eN uTup (aCons (eC (.str "told")) (aCons (eIf (tE (eBin uEq (eVar 1) (eC (.int 0)))) (eG 2 0 (fun us _ => f_both us) (aCons (eVar 2) (aCons (eVar 3) aNil)) aNil) (eG 0 2 (fun us ys => f_both (pick .non [1, 0] (us ++ ys))) aNil (aCons (eVar 3) (aCons (eVar 2) aNil)))) aNil)))))
  [(0, some 4, fun _ k => sRt (eN uTup (aCons (eC (.str "own")) (aCons (eXat k 0) aNil)))), (1, some 4, fun _ k => sRt (eN uTup (aCons (eC (.str "other")) (aCons (eXat k 0) aNil)))), (2, none, fun _ k => sRt (eN uTup (aCons (eC (.str "another error")) (aCons (eC .non) aNil))))])
def f__law_told : List U → M U := fun us => gc (fnM 5 b__law_told us)
def b__law_same (self : List U → List U → M U) : S :=
  (sSeq (sIf (tOrr (tE (eBin (uIs false) (eVar 1) (eC .non))) (tE (eUn (uIsI [.bool]) (eVar 1))))
  (sRt (eIf (tE (eBin (uIs false) (eVar 1) (eC .non))) (eBin (uIs false) (eVar 0) (eC .non)) (eAnd (eUn (uIsI [.bool]) (eVar 0)) (eBin uEq (eBin (uIs false) (eVar 0) (eC (.bl true))) (eBin (uIs false) (eVar 1) (eC (.bl true)))))))
  sNx)
  (sSeq (sIf (tE (eUn (uIsI [.int]) (eVar 1)))
  (sRt (eAnd (eUn (uIsI [.int]) (eVar 0)) (eAnd (eNo (eUn (uIsI [.bool]) (eVar 0))) (eBin uEq (eBin uSub (eN uInt (aCons (eVar 0) aNil)) (eVar 1)) (eC (.int 0))))))
  sNx)
  (sSeq (sIf (tE (eUn (uIsI [.str]) (eVar 1)))
  (sRt (eAnd (eUn (uIsI [.str]) (eVar 0)) (eAnd (eBin uEq (eN uLen (aCons (eVar 0) aNil)) (eN uLen (aCons (eVar 1) aNil))) (eBin uEq (eLc (iRg1 (aCons (eN uLen (aCons (eVar 1) aNil)) aNil)) (gN 2) (tE (eBin uNe (eSl uSl (eVar 0) (pSo (eVar 2)) (pSo (eBin uAdd (eVar 2) (eC (.int 1))))) (eBin uIdx (eVar 1) (eVar 2)))) (eVar 2) [2]) (eN uLst aNil)))))
  sNx)
  (sSeq (sIf (tOrr (tE (eBin uNe (eUn (uIsI [.list]) (eVar 0)) (eUn (uIsI [.list]) (eVar 1)))) (tE (eBin uNe (eUn (uIsI [.tuple]) (eVar 0)) (eUn (uIsI [.tuple]) (eVar 1)))))
  (sRt (eC (.bl false)))
  sNx)
  (sRt (eAnd (eBin uEq (eN uLen (aCons (eVar 0) aNil)) (eN uLen (aCons (eVar 1) aNil))) (eBin uEq (eLc (iRg1 (aCons (eN uLen (aCons (eVar 1) aNil)) aNil)) (gN 2) (tNo (tE (eG 2 0 self (aCons (eBin uIdx (eVar 0) (eVar 2)) (aCons (eBin uIdx (eVar 1) (eVar 2)) aNil)) aNil))) (eVar 2) [2]) (eN uLst aNil))))))))
def f__law_same : Nat → List U → M U
  | 0 => fun _ _ => .stuck
  | n + 1 => fun us => gc (fnM 3 (b__law_same fun us _ => f__law_same n us) us)
def b__law_right : S :=
  (sSeq (sPar3 5 6 7 (aCons (eIf (tE (eVar 1)) (eC (.int 1)) (eC (.int 2))) (aCons (eC .non) (aCons (eN uLst (aCons (eVar 3) (aCons (eVar 4) aNil))) aNil))))
  (sSeq (sAs (eIf (tNo (tE (eG 1 0 (fun us _ => f__law_is_good us) (aCons (eVar 3) aNil) aNil))) (eC (.int 0)) (eIf (tNo (tE (eG 1 0 (fun us _ => f__law_is_good us) (aCons (eVar 4) aNil) aNil))) (eC (.int 1)) (eC (.int 2)))) (gN 8))
  (sSeq (sIf (tE (eBin uEq (eVar 8) (eC (.int 2))))
  (sAs (eN uTup (aCons (eBin uIdx (eBin uIdx (eVar 0) (eBin uAdd (eVar 4) (eVar 5))) (eVar 3)) (aCons (eBin uIdx (eBin uIdx (eVar 0) (eBin uAdd (eVar 3) (eVar 5))) (eVar 4)) aNil))) (gN 6))
  sNx)
  (sSeq (sAs (eLc (iSeq (eVar 7)) (gN 10) tYs (eIf (tE (eUn (uIsI [.list]) (eVar 10))) (eN uList (aCons (eVar 10) aNil)) (eVar 10)) [10]) (gN 7))
  (sSeq (sAs (eG 4 0 (fun us _ => f__law_told us) (aCons (eVar 1) (aCons (eVar 2) (aCons (eBin uIdx (eVar 7) (eC (.int 0))) (aCons (eBin uIdx (eVar 7) (eC (.int 1))) aNil)))) aNil) (gN 9))
  (sSeq (sIf (tE (eBin uEq (eVar 8) (eC (.int 2))))
  (sRt (eAnd (eBin uEq (eBin uIdx (eVar 9) (eC (.int 0))) (eC (.str "told"))) (eG 2 0 (fun us _ => (f__law_same 4) us) (aCons (eBin uIdx (eVar 9) (eC (.int 1))) (aCons (eVar 6) aNil)) aNil)))
  sNx)
  (sSeq (sIf (tE (eBin uNe (eBin uIdx (eVar 9) (eC (.int 0))) (eBin uIdx (eN uLst (aCons (eC (.str "own")) (aCons (eC (.str "other")) aNil))) (eVar 8))))
  (sRt (eC (.bl false)))
  sNx)
  (sSeq (sIf (tE (eUn (uIsI [.list]) (eBin uIdx (eVar 7) (eVar 8))))
  (sSeq (sEx (eMe isLstU uAppend (eBin uIdx (eVar 7) (eVar 8)) (aCons (eC (.int 7)) aNil)))
  (sRt (eAnd (eUn (uIsI [.list]) (eBin uIdx (eVar 9) (eC (.int 1)))) (eBin uEq (eN uLen (aCons (eBin uIdx (eVar 9) (eC (.int 1))) aNil)) (eN uLen (aCons (eBin uIdx (eVar 7) (eVar 8)) aNil))))))
  sNx)
  (sSeq (sIf (tE (eUn (uIsI [.dict]) (eBin uIdx (eVar 7) (eVar 8))))
  (sRt (eAnd (eUn (uIsI [.dict]) (eBin uIdx (eVar 9) (eC (.int 1)))) (eBin uEq (eN uLen (aCons (eBin uIdx (eVar 9) (eC (.int 1))) aNil)) (eN uLen (aCons (eBin uIdx (eVar 7) (eVar 8)) aNil)))))
  sNx)
  (sRt (eG 2 0 (fun us _ => (f__law_same 4) us) (aCons (eBin uIdx (eVar 9) (eC (.int 1))) (aCons (eBin uIdx (eVar 7) (eVar 8)) aNil)) aNil)))))))))))
def f__law_right : List U → M U := fun us => gc (fnM 11 b__law_right us)
def b__law_odd : S :=
  (sSeq (sAs (eN uLst (aCons (eC (.int 1)) (aCons (eC (.int 0)) (aCons (eUn uNeg (eC (.int 1))) (aCons (eC (.int 17)) (aCons (eC (.int 18)) (aCons (eC (.bl true)) (aCons (eC (.bl false)) (aCons (eC .non) (aCons (eC (.str "2")) (aCons (eC (.str "")) (aCons (eN uLst (aCons (eVar 1) aNil)) (aCons (eN uTup (aCons (eVar 1) aNil)) (aCons eDct0 (aCons (eBin uPow (eC (.int 10)) (eC (.int 40))) (aCons (eUn uNeg (eVar 1)) (aCons (eN uLst aNil) (aCons (eN uDict (aCons (eN uLst (aCons (eN uTup (aCons (eC (.str "own")) (aCons (eVar 1) aNil))) aNil)) aNil)) aNil)))))))))))))))))) (gN 2))
  (sRt (eBin uIdx (eVar 2) (eG 2 0 (fun us _ => f__law_take us) (aCons (eVar 0) (aCons (eC (.int 17)) aNil)) aNil))))
def f__law_odd : List U → M U := fun us => gc (fnM 3 b__law_odd us)
def b_law : S :=
  (sSeq (sAs (eG 0 0 (fun us _ => f__law_most us) aNil aNil) (gN 1))
  (sSeq (sFor (iRg1 (aCons (eN uMax (aCons (eC (.int 1)) (aCons (eN uMin (aCons (eC (.int 2)) (aCons (eN uLen (aCons (eVar 0) aNil)) aNil))) aNil))) aNil)) (gN 2)
  (sSeq (sAs (eG 1 0 (fun us _ => f__law_box us) (aCons (eG 2 0 (fun us _ => f__law_cell us) (aCons (eVar 0) (aCons (eVar 2) aNil)) aNil) aNil) aNil) (gN 3))
  (sSeq (sAs (eG 2 0 (fun us _ => f__law_take us) (aCons (eVar 3) (aCons (eC (.int 2)) aNil)) aNil) (gN 4))
  (sSeq (sFor (iRg1 (aCons (eC (.int 20)) aNil)) (gN 5)
  (sSeq (sPar3 6 7 8 (aCons (eG 2 0 (fun us _ => f__law_take us) (aCons (eVar 3) (aCons (eC (.int 6)) aNil)) aNil) (aCons (eBin uAdd (eC (.int 2)) (eG 2 0 (fun us _ => f__law_take us) (aCons (eVar 3) (aCons (eC (.int 15)) aNil)) aNil)) (aCons (eBin uAdd (eC (.int 2)) (eG 2 0 (fun us _ => f__law_take us) (aCons (eVar 3) (aCons (eC (.int 15)) aNil)) aNil)) aNil))))
  (sSeq (sIf (tE (eBin uEq (eVar 6) (eC (.int 0))))
  (sAs (eVar 7) (gN 8))
  sNx)
  (sSeq (sIf (tE (eBin uEq (eVar 6) (eC (.int 1))))
  (sAs (eN uMin (aCons (eC (.int 16)) (aCons (eBin uAdd (eVar 7) (eC (.int 1))) aNil))) (gN 8))
  sNx)
  (sFor (iSeq (eN uLst (aCons (eC (.bl true)) (aCons (eC (.bl false)) (aCons (eC (.bl true)) aNil))))) (gN 9)
  (sSeq (sIf (tNo (tE (eG 5 0 (fun us _ => f__law_right us) (aCons (eVar 1) (aCons (eVar 9) (aCons (eBin uMod (eN uInt (aCons (eBin uAdd (eVar 4) (eVar 5)) aNil)) (eC (.int 2))) (aCons (eVar 7) (aCons (eVar 8) aNil))))) aNil)))
  (sRt (eC (.bl false)))
  sNx)
  (sIf (tNo (tE (eG 5 0 (fun us _ => f__law_right us) (aCons (eVar 1) (aCons (eVar 9) (aCons (eBin uMod (eN uInt (aCons (eBin uAdd (eVar 4) (eVar 5)) aNil)) (eC (.int 2))) (aCons (eVar 8) (aCons (eVar 7) aNil))))) aNil)))
  (sRt (eC (.bl false)))
  sNx)))))))
  (sFor (iRg1 (aCons (eC (.int 12)) aNil)) (gN 5)
  (sSeq (sPar3 6 7 8 (aCons (eG 2 0 (fun us _ => f__law_take us) (aCons (eVar 3) (aCons (eC (.int 3)) aNil)) aNil) (aCons (eBin uAdd (eC (.int 2)) (eG 2 0 (fun us _ => f__law_take us) (aCons (eVar 3) (aCons (eC (.int 15)) aNil)) aNil)) (aCons (eBin uAdd (eC (.int 2)) (eG 2 0 (fun us _ => f__law_take us) (aCons (eVar 3) (aCons (eC (.int 15)) aNil)) aNil)) aNil))))
  (sSeq (sPar 10 11 (aCons (eG 2 0 (fun us _ => f__law_odd us) (aCons (eVar 3) (aCons (eVar 7) aNil)) aNil) (aCons (eG 2 0 (fun us _ => f__law_odd us) (aCons (eVar 3) (aCons (eVar 8) aNil)) aNil) aNil)))
  (sSeq (sAs (eN uLst (aCons (eN uTup (aCons (eVar 10) (aCons (eVar 8) aNil))) (aCons (eN uTup (aCons (eVar 7) (aCons (eVar 10) aNil))) (aCons (eN uTup (aCons (eVar 10) (aCons (eVar 11) aNil))) (aCons (eN uTup (aCons (eC (.int 2)) (aCons (eC (.int 16)) aNil))) (aCons (eN uTup (aCons (eC (.int 16)) (aCons (eC (.int 2)) aNil))) aNil)))))) (gN 12))
  (sFor (iSeq (eN uLst (aCons (eBin uIdx (eVar 12) (eVar 6)) (aCons (eBin uIdx (eVar 12) (eBin uAdd (eC (.int 3)) (eBin uMod (eN uInt (aCons (eVar 5) aNil)) (eC (.int 2))))) aNil)))) (gN 13)
  (sIf (tNo (tE (eG 5 0 (fun us _ => f__law_right us) (aCons (eVar 1) (aCons (eBin uGt (eBin uMod (eN uInt (aCons (eVar 5) aNil)) (eC (.int 4))) (eC (.int 1))) (aCons (eBin uMod (eN uInt (aCons (eBin uAdd (eVar 4) (eVar 5)) aNil)) (eC (.int 2))) (aCons (eBin uIdx (eVar 13) (eC (.int 0))) (aCons (eBin uIdx (eVar 13) (eC (.int 1))) aNil))))) aNil)))
  (sRt (eC (.bl false)))
  sNx))))))))))
  (sRt (eC (.bl true)))))
def f_law : List U → M U := fun us => gc (fnM 14 b_law us)
end K50

set_option Elab.async false
set_option linter.all false
set_option maxRecDepth 100000
set_option autoImplicit false
namespace K50
open PM PySem
local macro_rules | `(tactic| trivial) => `(tactic| first
  | assumption | exact get_last | (apply get_app; trivial) | (apply sq_lst; trivial) | (apply sq_tup; trivial) | (apply sq_frz; trivial) | (apply la_lst; trivial) | (apply la_frz; trivial) | (apply seq_app; trivial)
  | (apply get_set; trivial) | (apply get_set_ne; (first | assumption | omega | decide); trivial) | (apply isLst_of; trivial))
local macro_rules | `(tactic| fail) => `(tactic| first
  | (with_reducible apply w_seq) | ((with_reducible apply w_var); rfl) | (with_reducible apply w_c) | (with_reducible apply w_bin) | (with_reducible apply w_un) | (with_reducible apply w_nil) | (with_reducible apply w_cons)
  | (with_reducible apply w_N) | (with_reducible apply w_Me) | ((with_reducible apply lst_to); trivial) | (with_reducible apply w_G) | (with_reducible apply w_E) | (with_reducible apply w_tNo) | (with_reducible apply w_An) | (with_reducible apply w_Orr) | (with_reducible apply w_eAnd) | (with_reducible apply w_eOr) | (with_reducible apply w_eNo) | (with_reducible apply w_eIf) | (with_reducible apply w_chain)
  | (with_reducible apply w_pNo) | (with_reducible apply w_pSo) | (with_reducible apply w_Sl)
  | (with_reducible apply w_tYs) | (with_reducible apply w_nx) | (with_reducible apply w_bk) | (with_reducible apply w_ct) | (with_reducible apply w_ex) | (with_reducible apply w_rt) | (with_reducible apply w_rtN) | (with_reducible apply w_if) | (with_reducible apply w_as) | (with_reducible apply w_par) | (with_reducible apply w_par3) | (with_reducible apply w_sub) | (with_reducible apply w_rz)
  | (with_reducible apply w_try) | (with_reducible apply try_none) | ((with_reducible apply try_skip); rfl) | ((with_reducible apply try_plain); rfl) | ((with_reducible apply try_named); rfl; exact Nat.le_of_ble_eq_true rfl) | ((with_reducible apply w_xat); trivial; rfl)
  | (with_reducible apply w_rg1) | (with_reducible apply w_rg2) | (with_reducible apply w_iseq)
  | (with_reducible apply o_add) | (with_reducible apply o_sub) | (with_reducible apply o_neg) | (with_reducible apply o_lt) | (with_reducible apply o_le) | (with_reducible apply o_gt) | (with_reducible apply o_ge) | (with_reducible apply o_isn) | (with_reducible apply o_isb) | (with_reducible apply o_tru_b) | (with_reducible apply o_tru_i) | (with_reducible apply o_abs) | (with_reducible apply o_int) | (with_reducible apply o_intb) | (with_reducible apply o_max2) | (with_reducible apply o_min2)
  | ((with_reducible apply o_fdivB); (first | decide | omega | assumption | rotate_left)) | ((with_reducible apply o_mod); (first | decide | omega | assumption | rotate_left)) | ((with_reducible apply o_mulB); (first | decide | omega | assumption)) | ((with_reducible apply o_mul); (first | assumption | rotate_left)) | ((with_reducible apply o_pow); (first | decide | omega | assumption | rotate_left))
  | ((with_reducible apply o_eq); rfl) | ((with_reducible apply o_ne); rfl)
  | ((with_reducible apply o_isi); (first | rfl | (apply ty_obj; trivial; rfl)); (first | exact (show _ = true from rfl) | exact (show _ = false from rfl)))
  | ((with_reducible apply o_lenS); (first | assumption | decide +kernel)) | ((with_reducible apply o_slS); (first | assumption | decide +kernel)) | ((with_reducible apply o_len); trivial) | ((with_reducible apply o_lenD); trivial)
  | ((with_reducible apply o_idx); trivial; (first | rfl | assumption | exact atU_nat0 (get_map (by assumption)) | exact atU_nat (get_map (by assumption)) | skip))
  | ((with_reducible apply o_lst); (first | exact Nat.le_of_ble_eq_true rfl | omega | assumption)) | ((with_reducible apply o_tup); (first | exact Nat.le_of_ble_eq_true rfl | omega | assumption))
  | ((with_reducible apply o_append); trivial; (first | assumption | rotate_left)) | ((with_reducible apply o_sl); trivial) | ((with_reducible apply o_list); trivial) | ((with_reducible apply o_divmod); (try first | decide | omega))
  | (with_reducible apply br_t) | (with_reducible apply br_f) | (with_reducible apply br_nt) | (with_reducible apply br_nf) | (with_reducible apply br_d) | (with_reducible apply br_nd)
  | ((with_reducible apply len2); rfl; rfl) | ((with_reducible apply as_to); (first | ((with_reducible apply gT_one); trivial; rfl; rfl) | rfl)) | ((with_reducible apply sub_to); (apply set_at; trivial; rfl)) | (with_reducible apply chain_to)
  | (with_reducible apply ex_int) | ((with_reducible apply ex_rg1); (first | omega | rotate_left)) | ((with_reducible apply ex_rg2); (first | omega | rotate_left)) | (with_reducible apply ex_par) | (with_reducible apply ex_par3) | ((with_reducible apply ex_seq); trivial))
/-- a box stands at b -/
def Box (g : G) (b : Nat) (k : Int) : Prop := ∃ (x m : Int) (c : Bool), g[b]? = some (.lst [.int x, .bl c, .int m, .int k]) ∧ 0 ≤ x ∧ 0 ≤ m ∧ m < 2147483629
theorem Box.lt {g : G} {b : Nat} {k : Int} (h : Box g b k) : b < g.length := by obtain ⟨_, _, _, h, _⟩ := h; exact lt_of_get h
theorem box_ok {g : G} {x : Int} {Q : U → G → Prop} {X : XP} (h : ∀ o, Box (g ++ [o]) g.length 0 → Q (.obj g.length) (g ++ [o])) : (f__law_box [.int x] g).sat Q X := by
  refine w_gcN (w_fn ?_)
  unfold b__law_box
  simp only [List.map_cons, List.map_nil, List.length_cons, List.length_nil, Nat.reduceSub, List.replicate_succ, List.replicate_zero, List.cons_append, List.nil_append, List.append_nil, Nat.zero_add, Nat.reduceAdd]
  repeat fail
  refine ⟨by simp [refs], h _ ⟨_, _, _, get_last, ?_, ?_, ?_⟩⟩
  · split <;> omega
  · omega
  · omega
theorem take_ok {g : G} {b : Nat} {k n : Int} {Q : U → G → Prop} {X : XP} (hb : Box g b k) (hk : 0 ≤ k ∧ k < 1000000) (hn : 0 < n ∧ n < 1000000) (h : ∀ (r : Int) (o : O) (k' : Int), 0 ≤ r → r < n → k ≤ k' → k' ≤ k + 1 → Box (g.set b o) b k' → Q (.int r) (g.set b o)) : (f__law_take [.obj b, .int n] g).sat Q X := by
  obtain ⟨x, m, c, hg, hx, hm, hm2⟩ := hb
  have hb := lt_of_get hg
  obtain ⟨hn, hn2⟩ := hn
  refine w_gcS (w_fn ?_)
  unfold b__law_take
  simp only [List.map_cons, List.map_nil, List.length_cons, List.length_nil, Nat.reduceSub, List.replicate_succ, List.replicate_zero, List.cons_append, List.nil_append, List.append_nil, Nat.zero_add, Nat.reduceAdd]
  repeat fail
  refine br_b (fun hc => ?_) (fun hc => ?_)
  · repeat fail
    · intro hgt
      repeat fail
      refine ⟨by simp, h _ _ _ (Int.emod_nonneg _ (by omega)) (Int.emod_lt_of_pos _ hn) (Int.le_refl _) (by omega) ⟨_, _, _, get_set hg, ?_, hm, hm2⟩⟩
      exact Int.ediv_nonneg hx (by omega)
    · intro hgt
      repeat fail
      exact ⟨by simp, h _ _ _ (Int.emod_nonneg _ (by omega)) (Int.emod_lt_of_pos _ hn) (by omega) (Int.le_refl _) ⟨_, _, _, get_set hg, hx, hm, hm2⟩⟩
  · repeat fail
    exact ⟨by simp, h _ _ _ (Int.emod_nonneg _ (by omega)) (Int.emod_lt_of_pos _ hn) (by omega) (Int.le_refl _) ⟨_, _, _, get_set hg, hx, hm, hm2⟩⟩
theorem cell_ok {g : G} {ns : List Int} {k : Nat} {Q : U → G → Prop} {X : XP} (hg : g[0]? = some (.frz (ns.map U.int))) (hk : k < 1000) (h : ∀ x, Q (.int x) g) : (f__law_cell [.obj 0, .int k] g).sat Q X := by
  refine w_gc (w_fn ?_)
  unfold b__law_cell
  simp only [List.map_cons, List.map_nil, List.length_cons, List.length_nil, Nat.reduceSub, List.replicate_succ, List.replicate_zero, List.cons_append, List.nil_append, List.append_nil, Nat.zero_add, Nat.reduceAdd]
  repeat fail
  · intro hlt
    repeat fail
    rotate_left
    · exact ⟨rfl, pre_nil, h (ns.getD k 0)⟩
    unfold atU
    rw [if_pos (by omega)]
    simp only [List.length_map] at hlt
    simp only [Int.toNat_natCast, List.getElem?_map, List.getD_eq_getElem?_getD]
    rw [List.getElem?_eq_getElem (by omega)]; rfl
  · intro hlt
    repeat fail
    refine o_sum (is := ns.take 1) (la_lst get_last) ?_ ?_
    · have : cutU (ns.map U.int) none (some 1) = (ns.take 1).map U.int := by
        unfold cutU
        rw [show HT.sIx (ns.map U.int).length 0 none = 0 from rfl, List.drop_zero, Nat.sub_zero, show HT.sIx (ns.map U.int).length (ns.map U.int).length (some 1) = min 1 (ns.map U.int).length from HT.sIx_nat _ _ 1]
        rw [List.map_take, List.take_eq_take_iff]
        simp
      rw [this]; exact intsOf_map _
    · repeat fail
      exact ⟨rfl, ⟨_, rfl⟩, h _⟩
theorem choose_ok {g : G} {n k : Nat} {Q : U → G → Prop} {X : XP} (h : k ≤ n) (hn : n ≤ 200) (q : Q (.int (bin n k)) g) : (f_choose_of [.int n, .int k] g).sat Q X := by
  unfold f_choose_of
  refine w_gc (w_fn ?_)
  unfold b_choose_of
  simp only [List.map_cons, List.map_nil, List.length_cons, List.length_nil, Nat.reduceSub, List.replicate_succ, List.replicate_zero, List.cons_append, List.nil_append, List.append_nil, Nat.zero_add, Nat.reduceAdd]
  repeat fail
  refine w_for ?_
  repeat fail
  rw [Int.toNat_natCast]
  refine w_forGo (fun i τ g' => ∃ o, τ = [some (.int n), some (.int k), some (.int (bin n i)), o] ∧ g' = g) ⟨_, by rw [bin_zero]; rfl, rfl⟩ (fun _ _ _ _ _ => rfl) ?_ ?_
  · rintro i τ g' hi ⟨o, rfl, rfl⟩
    have hi : i < k := hi
    refine ⟨_, _, rfl, rfl, ?_⟩
    repeat fail
    · refine ⟨some (.int (0 + i)), ?_, rfl⟩
      rw [bin_step' n i (by omega)]
      rfl
    · have hb := bin_le n i
      refine guardP (p := 201) (q := 201) ?_ ?_ (by omega)
      · rw [Int.natAbs_natCast]
        exact Nat.lt_of_le_of_lt hb (Nat.pow_lt_pow_right (by omega) (by omega))
      · exact Nat.lt_of_lt_of_le (show _ < 2 ^ 10 by omega) (Nat.pow_le_pow_right (by omega) (by omega))
  · rintro τ g' ⟨o, rfl, rfl⟩
    repeat fail
    exact ⟨rfl, pre_nil, q⟩
theorem choose_okI {g : G} {n k : Nat} {ni ki : Int} {Q : U → G → Prop} {X : XP} (e1 : ni = n) (e2 : ki = k) (h : k ≤ n) (hn : n ≤ 200) (q : Q (.int (bin n k)) g) : (f_choose_of [.int ni, .int ki] g).sat Q X := by
  subst e1 e2; exact choose_ok h hn q
/-- arrangements: found and total behind some parts -/
def arrS (s : Nat × Nat) (p : Nat) : Nat × Nat := (s.1 * bin (s.2 + p) p, s.2 + p)
def arrL (ps : List Nat) : Nat × Nat := ps.foldl arrS (1, 0)
def arr (ps : List Nat) : Nat := (arrL ps).1
theorem arrL_snoc (ps : List Nat) (p : Nat) : arrL (ps ++ [p]) = arrS (arrL ps) p := by unfold arrL; rw [List.foldl_append]; rfl
theorem arrL_sum (ps : List Nat) : (arrL ps).2 = ps.sum := by
  have key : ∀ (ps : List Nat) (s : Nat × Nat), (ps.foldl arrS s).2 = s.2 + ps.sum := by
    intro ps
    induction ps with
    | nil => intro s; simp
    | cons p r ih => intro s; rw [List.foldl_cons, ih, List.sum_cons]; simp only [arrS]; omega
  unfold arrL; rw [key]; simp
theorem sum_take_le (ps : List Nat) (i : Nat) : (ps.take i).sum ≤ ps.sum := by
  have := List.take_append_drop i ps
  have h : ps.sum = (ps.take i).sum + (ps.drop i).sum := by rw [← List.sum_append, this]
  omega
theorem arr_le (N : Nat) : ∀ (ps : List Nat), ps.sum ≤ N → arr ps ≤ 2 ^ (N * ps.length) := by
  intro ps
  have key : ∀ (ps : List Nat) (s : Nat × Nat) (e : Nat), s.1 ≤ 2 ^ e → s.2 + ps.sum ≤ N → (ps.foldl arrS s).1 ≤ 2 ^ (e + N * ps.length) := by
    intro ps
    induction ps with
    | nil => intro s e h _; simpa using h
    | cons p r ih =>
      intro s e h h2
      rw [List.foldl_cons, List.length_cons]
      rw [List.sum_cons] at h2
      have := ih (arrS s p) (e + N) (by
        show s.1 * bin (s.2 + p) p ≤ 2 ^ (e + N)
        rw [Nat.pow_add]
        exact Nat.mul_le_mul h (Nat.le_trans (bin_le _ _) (Nat.pow_le_pow_right (by omega) (by omega)))) (by show s.2 + p + r.sum ≤ N; omega)
      rw [show e + N + N * r.length = e + N * (r.length + 1) by rw [Nat.mul_add]; omega] at this
      exact this
  intro h
  have := key ps (1, 0) 0 (by simp) (by simpa using h)
  rw [Nat.zero_add] at this
  exact this
abbrev nU (n : Nat) : U := .int n
theorem arrangements_ok {g : G} {p : Nat} {t : Bool} {ps : List Nat} {Q : U → G → Prop} {X : XP} (hp : seqAt g p = some (t, ps.map nU)) (hs : ps.sum ≤ 100) (hl : ps.length ≤ 1000) (q : Q (.int (arr ps)) g) : (f_arrangements_of [.obj p] g).sat Q X := by
  unfold f_arrangements_of
  refine w_gc (w_fn ?_)
  unfold b_arrangements_of
  simp only [List.map_cons, List.map_nil, List.length_cons, List.length_nil, Nat.reduceSub, List.replicate_succ, List.replicate_zero, List.cons_append, List.nil_append, List.append_nil, Nat.zero_add, Nat.reduceAdd]
  repeat fail
  refine w_for ?_
  repeat fail
  refine w_forGo (fun i τ g' => ∃ o, τ = [some (.obj p), some (.int (arrL (ps.take i)).1), some (.int (arrL (ps.take i)).2), o] ∧ Pre g g') ⟨_, rfl, ⟨_, rfl⟩⟩ (fun i τ g' _ ⟨_, _, h⟩ => ?_) ?_ ?_
  · simp [Wk.ok, h.seq hp]
  · rintro i τ g' hi ⟨o, rfl, hg⟩
    have hi : i < ps.length := by simpa [Wk.len] using hi
    refine ⟨.one (nU ps[i]), _, by simp [Wk.item, hi], rfl, ?_⟩
    repeat fail
    have hsum : (arrL (ps.take i)).2 + ps[i] ≤ 100 := by
      have h1 := sum_take_le ps (i + 1)
      rw [List.take_add_one, List.getElem?_eq_getElem hi, Option.toList_some, List.sum_append, List.sum_singleton] at h1
      rw [arrL_sum]; omega
    refine choose_okI (n := (arrL (ps.take i)).2 + ps[i]) (k := ps[i]) (by simp) rfl (by omega) (by omega) ?_
    repeat fail
    · refine ⟨some (nU ps[i]), ?_, hg⟩
      have : ps.take (i + 1) = ps.take i ++ [ps[i]] := by rw [List.take_add_one, List.getElem?_eq_getElem hi]; rfl
      rw [this, arrL_snoc]
      simp [arrS]
    · refine guardP (p := 100 * 1000 + 1) (q := 201) ?_ ?_ (by omega)
      · rw [Int.natAbs_natCast]
        have h1 := arr_le 100 (ps.take i) (by have := sum_take_le ps i; omega)
        refine Nat.lt_of_le_of_lt h1 (Nat.pow_lt_pow_right (by omega) ?_)
        have : (ps.take i).length ≤ 1000 := by rw [List.length_take]; omega
        omega
      · rw [Int.natAbs_natCast]
        exact Nat.lt_of_le_of_lt (bin_le _ _) (Nat.pow_lt_pow_right (by omega) (by omega))
  · rintro τ g' ⟨o, rfl, hg⟩
    repeat fail
    refine ⟨rfl, hg, ?_⟩
    rw [show (Wk.seq p t (ps.map nU)).len = ps.length by simp [Wk.len], List.take_length]
    exact q
theorem even_ok {g : G} {n k : Nat} {ni ki : Int} {Q : U → G → Prop} {X : XP} (e1 : ni = n) (e2 : ki = k) (hk : 0 < k ∧ k ≤ 1000) (hn : n ≤ 1000) (q : ∀ m l, g.length ≤ m → (g ++ l)[m]? = some (.tup ((evenL n k).map nU)) → Q (.obj m) (g ++ l)) : (f_even_parts_of [.int ni, .int ki] g).sat Q X := by
  subst e1 e2
  unfold f_even_parts_of
  refine w_gcN (w_fn ?_)
  unfold b_even_parts_of
  simp only [List.map_cons, List.map_nil, List.length_cons, List.length_nil, Nat.reduceSub, List.replicate_succ, List.replicate_zero, List.cons_append, List.nil_append, List.append_nil, Nat.zero_add, Nat.reduceAdd]
  repeat fail
  have b1 : (n : Int) % k = ((n % k : Nat) : Int) := rfl
  have b2 : n % k < k := Nat.mod_lt _ hk.1
  refine o_mulT (N := g.length) get_last (by rw [b1]; omega) (by simp) fun m l hm hml => ?_
  repeat fail
  refine o_mulT (N := g.length) get_last (by rw [b1]; omega) (by simp <;> omega) fun m2 l2 hm2 hml2 => ?_
  refine o_addT (N := g.length) (get_app (get_app hml)) hml2 (by rw [List.length_replicate, List.length_replicate, PySem.sizeLine_eq]; omega) hm hm2 fun m3 l3 hm3 hml3 => ?_
  simp only [List.append_assoc] at hml3 ⊢
  refine ⟨by simp [refs]; omega, q _ _ hm3 ?_⟩
  rw [hml3]
  unfold evenL
  rw [List.map_append, List.map_replicate, List.map_replicate]
  rw [show ((n : Int) % k).toNat = n % k from by rw [b1]; exact Int.toNat_natCast _, show ((k : Int) - (n : Int) % k).toNat = k - n % k from by rw [b1]; omega]
  rfl
theorem most_told_ok {g : G} {n k : Nat} {ni ki : Int} {Q : U → G → Prop} {X : XP} (e1 : ni = n) (e2 : ki = k) (hk : 0 < k ∧ k ≤ 1000) (hn : n ≤ 100) (q : Q (.int (arr (evenL n k))) g) : (f_most_told [.int ni, .int ki] g).sat Q X := by
  unfold f_most_told
  refine w_gc (w_fn ?_)
  unfold b_most_told
  simp only [List.map_cons, List.map_nil, List.length_cons, List.length_nil, Nat.reduceSub, List.replicate_succ, List.replicate_zero, List.cons_append, List.nil_append, List.append_nil, Nat.zero_add, Nat.reduceAdd]
  repeat fail
  refine even_ok e1 e2 hk (by omega) fun m l hm hml => ?_
  repeat fail
  refine arrangements_ok (sq_tup hml) (by rw [evenL_sum hk.1]; exact hn) (by rw [evenL_len hk.1]; exact hk.2) ?_
  exact ⟨rfl, ⟨_, rfl⟩, q⟩
theorem both_of_ok {g : G} {a b : Nat} {ai bi : Int} {known : Bool} {Q : U → G → Prop} {X : XP} (e1 : ai = a) (e2 : bi = b) (ha : a ≤ 16) (hb : b ≤ 16) (q : ∀ m l, g.length ≤ m → (g ++ l)[m]? = some (.tup [.int (arr (evenL a (b + if known then 1 else 2))), .int (arr (evenL b (a + if known then 1 else 2)))]) → Q (.obj m) (g ++ l)) : (f_both_of [.int ai, .int bi, .bl known] g).sat Q X := by
  subst e1 e2
  unfold f_both_of
  refine w_gcN (w_fn ?_)
  unfold b_both_of
  simp only [List.map_cons, List.map_nil, List.length_cons, List.length_nil, Nat.reduceSub, List.replicate_succ, List.replicate_zero, List.cons_append, List.nil_append, List.append_nil, Nat.zero_add, Nat.reduceAdd]
  repeat fail
  cases known
  · repeat fail
    refine most_told_ok (k := b + 2) rfl rfl (by omega) (by omega) ?_
    repeat fail
    refine most_told_ok (k := a + 2) rfl rfl (by omega) (by omega) ?_
    repeat fail
    exact ⟨by simp [refs], q _ _ (Nat.le_refl _) get_last⟩
  · repeat fail
    refine most_told_ok (k := b + 1) rfl rfl (by omega) (by omega) ?_
    repeat fail
    refine most_told_ok (k := a + 1) rfl rfl (by omega) (by omega) ?_
    repeat fail
    exact ⟨by simp [refs], q _ _ (Nat.le_refl _) get_last⟩
/-- what may be handed in -/
inductive Thing (g : G) : U → Prop
  | non : Thing g .non
  | bl (b : Bool) : Thing g (.bl b)
  | int (i : Int) : Thing g (.int i)
  | str (s : Str) (h : s = "2" ∨ s = "") : Thing g (.str s)
  | lst (n : Nat) (xs : List U) (h : g[n]? = some (.lst xs)) (hz : xs.length < 100) : Thing g (.obj n)
  | tup (n : Nat) (i : Int) (h : g[n]? = some (.tup [.int i])) : Thing g (.obj n)
  | dct (n : Nat) (kvs : List (L2.Key × U)) (h : g[n]? = some (.dct kvs)) : Thing g (.obj n)
theorem Thing.pre {g g' : G} {u : U} (h : Thing g u) (p : Pre g g') : Thing g' u := by
  cases h with
  | non => exact .non
  | bl b => exact .bl b
  | int i => exact .int i
  | str s h => exact .str s h
  | lst n xs h hz => exact .lst n xs (p.get h) hz
  | tup n i h => exact .tup n i (p.get h)
  | dct n kvs h => exact .dct n kvs (p.get h)
def betw (l m : Int) : U → Bool | .int i => decide (l ≤ i) && decide (i ≤ m) | _ => false
theorem is_whole_ok {g : G} {u : U} {Q : U → G → Prop} {X : XP} (h : Thing g u) (q : Q (.bl (match u with | .int _ => true | _ => false)) g) : (f_is_whole [u] g).sat Q X := by
  unfold f_is_whole
  refine w_gc (w_fn ?_)
  unfold b_is_whole
  simp only [List.map_cons, List.map_nil, List.length_cons, List.length_nil, Nat.reduceSub, List.replicate_succ, List.replicate_zero, List.cons_append, List.nil_append, List.append_nil, Nat.zero_add, Nat.reduceAdd]
  cases h
  all_goals
    repeat fail
    exact ⟨rfl, pre_nil, q⟩
theorem is_between_ok {g : G} {u : U} {l m : Int} {Q : U → G → Prop} {X : XP} (h : Thing g u) (q : Q (.bl (betw l m u)) g) : (f_is_between [u, .int l, .int m] g).sat Q X := by
  unfold f_is_between
  refine w_gc (w_fn ?_)
  unfold b_is_between
  simp only [List.map_cons, List.map_nil, List.length_cons, List.length_nil, Nat.reduceSub, List.replicate_succ, List.replicate_zero, List.cons_append, List.nil_append, List.append_nil, Nat.zero_add, Nat.reduceAdd]
  repeat fail
  refine is_whole_ok h ?_
  cases h
  case int i =>
    repeat fail
    · intro h1
      repeat fail
      exact ⟨rfl, pre_nil, by simpa [betw, h1] using q⟩
    · intro h1
      exact ⟨rfl, pre_nil, by simpa [betw, h1] using q⟩
  all_goals
    repeat fail
    exact ⟨rfl, pre_nil, q⟩
theorem is_good_ok {g : G} {u : U} {Q : U → G → Prop} {X : XP} (h : Thing g u) (q : Q (.bl (betw 2 16 u)) g) : (f__law_is_good [u] g).sat Q X := by
  unfold f__law_is_good
  refine w_gc (w_fn ?_)
  unfold b__law_is_good
  simp only [List.map_cons, List.map_nil, List.length_cons, List.length_nil, Nat.reduceSub, List.replicate_succ, List.replicate_zero, List.cons_append, List.nil_append, List.append_nil, Nat.zero_add, Nat.reduceAdd]
  cases h
  case int i =>
    repeat fail
    · intro h1
      repeat fail
      exact ⟨rfl, pre_nil, by simpa [betw, h1] using q⟩
    · intro h1
      exact ⟨rfl, pre_nil, by simpa [betw, h1] using q⟩
  all_goals
    repeat fail
    exact ⟨rfl, pre_nil, q⟩
theorem check_ok {g : G} {u v : U} {Q : U → G → Prop} {X : XP} (hu : Thing g u) (hv : Thing g v) (q : betw 2 16 u = true → betw 2 16 v = true → Q .non g)
    (q1 : betw 2 16 u = false → X 0 (some g.length) (g ++ [.xd [(0, u)]])) (q2 : betw 2 16 u = true → betw 2 16 v = false → X 1 (some g.length) (g ++ [.xd [(0, v)]])) : (f_check_both [u, v, .int 16] g).sat Q X := by
  unfold f_check_both
  refine w_gc (w_fn ?_)
  unfold b_check_both
  simp only [List.map_cons, List.map_nil, List.length_cons, List.length_nil, Nat.reduceSub, List.replicate_succ, List.replicate_zero, List.cons_append, List.nil_append, List.append_nil, Nat.zero_add, Nat.reduceAdd]
  repeat fail
  refine is_between_ok hu ?_
  repeat fail
  cases e1 : betw 2 16 u with
  | false =>
    repeat fail
    exact ⟨⟨rfl, Nat.le_of_ble_eq_true rfl⟩, q1 e1⟩
  | true =>
    repeat fail
    refine is_between_ok hv ?_
    repeat fail
    cases e2 : betw 2 16 v with
    | false =>
      repeat fail
      exact ⟨⟨rfl, Nat.le_of_ble_eq_true rfl⟩, q2 e1 e2⟩
    | true =>
      repeat fail
      exact ⟨rfl, pre_nil, q e1 e2⟩
theorem betw_int {l m : Int} {u : U} (h : betw l m u = true) : ∃ i, u = .int i ∧ l ≤ i ∧ i ≤ m := by
  cases u <;> simp [betw] at h
  exact ⟨_, rfl, h.1, h.2⟩
/-- what the numbers are -/
def num (k : Nat) (a b : Int) : Int := arr (evenL a.toNat (b.toNat + k))
theorem both_ok {g : G} {u v : U} {Q : U → G → Prop} {X : XP} (hu : Thing g u) (hv : Thing g v) (q : ∀ a b m l, u = .int a → v = .int b → betw 2 16 u = true → betw 2 16 v = true → g.length ≤ m → (g ++ l)[m]? = some (.tup [.int (num 2 a b), .int (num 2 b a)]) → Q (.obj m) (g ++ l))
    (q1 : betw 2 16 u = false → X 0 (some g.length) (g ++ [.xd [(0, u)]])) (q2 : betw 2 16 u = true → betw 2 16 v = false → X 1 (some g.length) (g ++ [.xd [(0, v)]])) : (f_both [u, v] g).sat Q X := by
  unfold f_both
  refine w_gcN (w_fn ?_)
  unfold b_both
  simp only [List.map_cons, List.map_nil, List.length_cons, List.length_nil, Nat.reduceSub, List.replicate_succ, List.replicate_zero, List.cons_append, List.nil_append, List.append_nil, Nat.zero_add, Nat.reduceAdd]
  repeat fail
  refine check_ok hu hv (fun e1 e2 => ?_) (fun e => q1 e) (fun e e' => q2 e e')
  repeat fail
  obtain ⟨a, rfl, a1, a2⟩ := betw_int e1
  obtain ⟨b, rfl, b1, b2⟩ := betw_int e2
  refine both_of_ok (a := a.toNat) (b := b.toNat) (by omega) (by omega) (by omega) (by omega) fun m l hm hml => ?_
  exact ⟨by simp [refs]; omega, q a b m l rfl rfl e1 e2 hm hml⟩
theorem both_known_ok {g : G} {u v : U} {Q : U → G → Prop} {X : XP} (hu : Thing g u) (hv : Thing g v) (q : ∀ a b m l, u = .int a → v = .int b → betw 2 16 u = true → betw 2 16 v = true → g.length ≤ m → (g ++ l)[m]? = some (.tup [.int (num 1 a b), .int (num 1 b a)]) → Q (.obj m) (g ++ l))
    (q1 : betw 2 16 u = false → X 0 (some g.length) (g ++ [.xd [(0, u)]])) (q2 : betw 2 16 u = true → betw 2 16 v = false → X 1 (some g.length) (g ++ [.xd [(0, v)]])) : (f_both_known [u, v] g).sat Q X := by
  unfold f_both_known
  refine w_gcN (w_fn ?_)
  unfold b_both_known
  simp only [List.map_cons, List.map_nil, List.length_cons, List.length_nil, Nat.reduceSub, List.replicate_succ, List.replicate_zero, List.cons_append, List.nil_append, List.append_nil, Nat.zero_add, Nat.reduceAdd]
  repeat fail
  refine check_ok hu hv (fun e1 e2 => ?_) (fun e => q1 e) (fun e e' => q2 e e')
  repeat fail
  obtain ⟨a, rfl, a1, a2⟩ := betw_int e1
  obtain ⟨b, rfl, b1, b2⟩ := betw_int e2
  refine both_of_ok (a := a.toNat) (b := b.toNat) (by omega) (by omega) (by omega) (by omega) fun m l hm hml => ?_
  exact ⟨by simp [refs]; omega, q a b m l rfl rfl e1 e2 hm hml⟩
def kn (k : Bool) : Nat := if k then 1 else 2
theorem told_ok {g : G} {u v : U} {known : Bool} {named : Int} {Q : U → G → Prop} {X : XP} (hu : Thing g u) (hv : Thing g v)
    (q : ∀ a b r m l, u = .int a → v = .int b → betw 2 16 u = true → betw 2 16 v = true → g.length ≤ m → (g ++ l)[m]? = some (.tup [.str "told", .obj r]) → (g ++ l)[r]? = some (.tup [.int (num (kn known) a b), .int (num (kn known) b a)]) → Q (.obj m) (g ++ l))
    (q1 : ∀ m l, betw 2 16 u = false → g.length ≤ m → (g ++ l)[m]? = some (.tup [.str "own", u]) → Q (.obj m) (g ++ l))
    (q2 : ∀ m l, betw 2 16 u = true → betw 2 16 v = false → g.length ≤ m → (g ++ l)[m]? = some (.tup [.str "other", v]) → Q (.obj m) (g ++ l)) : (f__law_told [.bl known, .int named, u, v] g).sat Q X := by
  unfold f__law_told
  refine w_gcN (w_fn ?_)
  unfold b__law_told
  simp only [List.map_cons, List.map_nil, List.length_cons, List.length_nil, Nat.reduceSub, List.replicate_succ, List.replicate_zero, List.cons_append, List.nil_append, List.append_nil, Nat.zero_add, Nat.reduceAdd]
  repeat fail
  cases known
  · repeat fail
    · intro hn
      repeat fail
      refine both_ok hu hv (fun a b m l e1 e2 e3 e4 hm hml => ?_) (fun e => ?_) (fun e e' => ?_)
      · repeat fail
        refine ⟨by simp [refs], ?_⟩
        rw [List.append_assoc]
        exact q a b m _ _ e1 e2 e3 e4 (by simp) (by rw [← List.append_assoc]; exact get_last) (by rw [← List.append_assoc]; exact get_app hml)
      · repeat fail
        refine ⟨by simp [refs], ?_⟩
        rw [List.append_assoc]
        exact q1 _ _ e (by simp) (by rw [← List.append_assoc]; exact get_last)
      · repeat fail
        refine ⟨by simp [refs], ?_⟩
        rw [List.append_assoc]
        exact q2 _ _ e e' (by simp) (by rw [← List.append_assoc]; exact get_last)
    · intro hn
      repeat fail
      refine both_ok hu hv (fun a b m l e1 e2 e3 e4 hm hml => ?_) (fun e => ?_) (fun e e' => ?_)
      · repeat fail
        refine ⟨by simp [refs], ?_⟩
        rw [List.append_assoc]
        exact q a b m _ _ e1 e2 e3 e4 (by simp) (by rw [← List.append_assoc]; exact get_last) (by rw [← List.append_assoc]; exact get_app hml)
      · repeat fail
        refine ⟨by simp [refs], ?_⟩
        rw [List.append_assoc]
        exact q1 _ _ e (by simp) (by rw [← List.append_assoc]; exact get_last)
      · repeat fail
        refine ⟨by simp [refs], ?_⟩
        rw [List.append_assoc]
        exact q2 _ _ e e' (by simp) (by rw [← List.append_assoc]; exact get_last)
  · repeat fail
    · intro hn
      repeat fail
      refine both_known_ok hu hv (fun a b m l e1 e2 e3 e4 hm hml => ?_) (fun e => ?_) (fun e e' => ?_)
      · repeat fail
        refine ⟨by simp [refs], ?_⟩
        rw [List.append_assoc]
        exact q a b m _ _ e1 e2 e3 e4 (by simp) (by rw [← List.append_assoc]; exact get_last) (by rw [← List.append_assoc]; exact get_app hml)
      · repeat fail
        refine ⟨by simp [refs], ?_⟩
        rw [List.append_assoc]
        exact q1 _ _ e (by simp) (by rw [← List.append_assoc]; exact get_last)
      · repeat fail
        refine ⟨by simp [refs], ?_⟩
        rw [List.append_assoc]
        exact q2 _ _ e e' (by simp) (by rw [← List.append_assoc]; exact get_last)
    · intro hn
      repeat fail
      refine both_known_ok hu hv (fun a b m l e1 e2 e3 e4 hm hml => ?_) (fun e => ?_) (fun e e' => ?_)
      · repeat fail
        refine ⟨by simp [refs], ?_⟩
        rw [List.append_assoc]
        exact q a b m _ _ e1 e2 e3 e4 (by simp) (by rw [← List.append_assoc]; exact get_last) (by rw [← List.append_assoc]; exact get_app hml)
      · repeat fail
        refine ⟨by simp [refs], ?_⟩
        rw [List.append_assoc]
        exact q1 _ _ e (by simp) (by rw [← List.append_assoc]; exact get_last)
      · repeat fail
        refine ⟨by simp [refs], ?_⟩
        rw [List.append_assoc]
        exact q2 _ _ e e' (by simp) (by rw [← List.append_assoc]; exact get_last)
theorem same_int {g : G} {i : Int} {n : Nat} {Q : U → G → Prop} {X : XP} (q : Q (.bl true) g) : (f__law_same (n + 1) [.int i, .int i] g).sat Q X := by
  unfold f__law_same
  refine w_gc (w_fn ?_)
  unfold b__law_same
  simp only [List.map_cons, List.map_nil, List.length_cons, List.length_nil, Nat.reduceSub, List.replicate_succ, List.replicate_zero, List.cons_append, List.nil_append, List.append_nil, Nat.zero_add, Nat.reduceAdd]
  repeat fail
  · intro h; cases h
  · intro _
    repeat fail
    exact ⟨rfl, pre_nil, by simpa using q⟩
theorem same_bl {g : G} {i : Bool} {n : Nat} {Q : U → G → Prop} {X : XP} (q : Q (.bl true) g) : (f__law_same (n + 1) [.bl i, .bl i] g).sat Q X := by
  unfold f__law_same
  refine w_gc (w_fn ?_)
  unfold b__law_same
  simp only [List.map_cons, List.map_nil, List.length_cons, List.length_nil, Nat.reduceSub, List.replicate_succ, List.replicate_zero, List.cons_append, List.nil_append, List.append_nil, Nat.zero_add, Nat.reduceAdd]
  repeat fail
  · intro h; cases h
  · intro _
    repeat fail
    · intro h; cases h
    · intro _
      repeat fail
      exact ⟨rfl, pre_nil, by simpa using q⟩
theorem same_non {g : G} {n : Nat} {Q : U → G → Prop} {X : XP} (q : Q (.bl true) g) : (f__law_same (n + 1) [.non, .non] g).sat Q X := by
  unfold f__law_same
  refine w_gc (w_fn ?_)
  unfold b__law_same
  simp only [List.map_cons, List.map_nil, List.length_cons, List.length_nil, Nat.reduceSub, List.replicate_succ, List.replicate_zero, List.cons_append, List.nil_append, List.append_nil, Nat.zero_add, Nat.reduceAdd]
  repeat fail
  · intro h
    repeat fail
    · intro h
      exact ⟨rfl, pre_nil, by simpa using q⟩
    · intro h; exact absurd rfl h
  · intro h; exact absurd rfl h
theorem same_str {g : G} {s : Str} {n : Nat} {Q : U → G → Prop} {X : XP} (hs : s = "2" ∨ s = "") (q : Q (.bl true) g) : (f__law_same (n + 1) [.str s, .str s] g).sat Q X := by
  have hz : s.length ≤ sizeLine := by rcases hs with rfl | rfl <;> decide +kernel
  unfold f__law_same
  refine w_gc (w_fn ?_)
  unfold b__law_same
  simp only [List.map_cons, List.map_nil, List.length_cons, List.length_nil, Nat.reduceSub, List.replicate_succ, List.replicate_zero, List.cons_append, List.nil_append, List.append_nil, Nat.zero_add, Nat.reduceAdd]
  repeat fail
  · intro h; cases h
  · intro _
    repeat fail
    · intro _
      repeat fail
      refine w_lc ?_
      repeat fail
      rcases hs with rfl | rfl
      · refine w_lc_none rfl (by decide +kernel) (fun i hi => ⟨_, _, rfl, rfl, ?_⟩) ?_
        · have hi : i < 1 := hi
          have : i = 0 := by omega
          subst this
          repeat fail
          refine o_idxS hz (c := 50) (by decide +kernel) ?_
          repeat fail
          exact ⟨by decide +kernel, rfl⟩
        · repeat fail
          refine o_eq_nil (get_app get_last) get_last ?_
          exact ⟨rfl, ⟨[.lst [], .lst []], by simp⟩, q⟩
      · refine w_lc_none rfl (by decide +kernel) (fun i hi => ?_) ?_
        · have hi : i < 0 := hi
          omega
        · repeat fail
          refine o_eq_nil (get_app get_last) get_last ?_
          exact ⟨rfl, ⟨[.lst [], .lst []], by simp⟩, q⟩
      · rw [PySem.sizeLine_eq] at hz; omega
    · intro h; exact absurd rfl h
/-- tuples of integers -/
theorem same_tup {g : G} {a b : Nat} {l : List Int} {n : Nat} {Q : U → G → Prop} {X : XP} (ha : g[a]? = some (.tup (l.map U.int))) (hb : g[b]? = some (.tup (l.map U.int))) (hl : l.length ≤ 1000) (q : Q (.bl true) g) : (f__law_same (n + 2) [.obj a, .obj b] g).sat Q X := by
  unfold f__law_same
  refine w_gc (w_fn ?_)
  unfold b__law_same
  simp only [List.map_cons, List.map_nil, List.length_cons, List.length_nil, Nat.reduceSub, List.replicate_succ, List.replicate_zero, List.cons_append, List.nil_append, List.append_nil, Nat.zero_add, Nat.reduceAdd]
  repeat fail
  · intro h; cases h
  · intro _
    repeat fail
    · intro h; exact absurd rfl h
    · intro _
      repeat fail
      · intro h; exact absurd rfl h
      · intro _
        repeat fail
        · intro _
          repeat fail
          refine w_lc ?_
          repeat fail
          refine w_lc_none rfl (by show (((l.map U.int).length : Int)).toNat ≤ sizeLine; rw [PySem.sizeLine_eq, List.length_map]; omega) (fun i hi => ⟨_, _, rfl, rfl, ?_⟩) ?_
          · have hi : i < l.length := by simpa [Wk.len] using hi
            repeat fail
            refine same_int ?_
            repeat fail
            exact ⟨rfl, rfl⟩
          · repeat fail
            refine o_eq_nil (get_app get_last) get_last ?_
            exact ⟨rfl, ⟨[.lst [], .lst []], by simp⟩, q⟩
          · rw [List.length_map]; omega
        · intro h; exact absurd rfl h
end K50

set_option Elab.async false
set_option linter.all false
set_option maxRecDepth 100000
set_option autoImplicit false
namespace K50
open PM PySem
local macro_rules | `(tactic| trivial) => `(tactic| first
  | assumption | exact get_last | (apply get_app; trivial) | (apply sq_lst; trivial) | (apply sq_tup; trivial) | (apply sq_frz; trivial) | (apply la_lst; trivial) | (apply la_frz; trivial) | (apply seq_app; trivial)
  | (apply get_set; trivial) | (apply get_set_ne; (first | assumption | omega | decide); trivial) | (apply isLst_of; trivial))
local macro_rules | `(tactic| fail) => `(tactic| first
  | (with_reducible apply w_seq) | ((with_reducible apply w_var); rfl) | (with_reducible apply w_c) | (with_reducible apply w_bin) | (with_reducible apply w_un) | (with_reducible apply w_nil) | (with_reducible apply w_cons)
  | (with_reducible apply w_N) | (with_reducible apply w_Me) | ((with_reducible apply lst_to); trivial) | (with_reducible apply w_G) | (with_reducible apply w_E) | (with_reducible apply w_tNo) | (with_reducible apply w_An) | (with_reducible apply w_Orr) | (with_reducible apply w_eAnd) | (with_reducible apply w_eOr) | (with_reducible apply w_eNo) | (with_reducible apply w_eIf) | (with_reducible apply w_chain)
  | (with_reducible apply w_pNo) | (with_reducible apply w_pSo) | (with_reducible apply w_Sl)
  | (with_reducible apply w_tYs) | (with_reducible apply w_nx) | (with_reducible apply w_bk) | (with_reducible apply w_ct) | (with_reducible apply w_ex) | (with_reducible apply w_rt) | (with_reducible apply w_rtN) | (with_reducible apply w_if) | (with_reducible apply w_as) | (with_reducible apply w_par) | (with_reducible apply w_par3) | (with_reducible apply w_sub) | (with_reducible apply w_rz)
  | (with_reducible apply w_try) | (with_reducible apply try_none) | ((with_reducible apply try_skip); rfl) | ((with_reducible apply try_plain); rfl) | ((with_reducible apply try_named); rfl; exact Nat.le_of_ble_eq_true rfl) | ((with_reducible apply w_xat); trivial; rfl)
  | (with_reducible apply w_rg1) | (with_reducible apply w_rg2) | (with_reducible apply w_iseq)
  | (with_reducible apply o_add) | (with_reducible apply o_sub) | (with_reducible apply o_neg) | (with_reducible apply o_lt) | (with_reducible apply o_le) | (with_reducible apply o_gt) | (with_reducible apply o_ge) | (with_reducible apply o_isn) | (with_reducible apply o_isb) | (with_reducible apply o_tru_b) | (with_reducible apply o_tru_i) | (with_reducible apply o_abs) | (with_reducible apply o_int) | (with_reducible apply o_intb) | (with_reducible apply o_max2) | (with_reducible apply o_min2)
  | ((with_reducible apply o_fdivB); (first | decide | omega | assumption | rotate_left)) | ((with_reducible apply o_mod); (first | decide | omega | assumption | rotate_left)) | ((with_reducible apply o_mulB); (first | decide | omega | assumption)) | ((with_reducible apply o_mul); (first | assumption | rotate_left)) | ((with_reducible apply o_pow); (first | decide | omega | assumption | rotate_left))
  | ((with_reducible apply o_eq); rfl) | ((with_reducible apply o_ne); rfl)
  | ((with_reducible apply o_isi); (first | rfl | (apply ty_obj; trivial; rfl)); (first | exact (show _ = true from rfl) | exact (show _ = false from rfl)))
  | ((with_reducible apply o_lenS); (first | assumption | decide +kernel)) | ((with_reducible apply o_slS); (first | assumption | decide +kernel)) | ((with_reducible apply o_len); trivial) | ((with_reducible apply o_lenD); trivial)
  | ((with_reducible apply o_idx); trivial; (first | rfl | assumption | exact atU_nat0 (get_map (by assumption)) | exact atU_nat (get_map (by assumption)) | skip))
  | ((with_reducible apply o_lst); (first | exact Nat.le_of_ble_eq_true rfl | omega | assumption)) | ((with_reducible apply o_tup); (first | exact Nat.le_of_ble_eq_true rfl | omega | assumption))
  | ((with_reducible apply o_append); trivial; (first | assumption | rotate_left)) | ((with_reducible apply o_sl); trivial) | ((with_reducible apply o_list); trivial) | ((with_reducible apply o_divmod); (try first | decide | omega))
  | (with_reducible apply br_t) | (with_reducible apply br_f) | (with_reducible apply br_nt) | (with_reducible apply br_nf) | (with_reducible apply br_d) | (with_reducible apply br_nd)
  | ((with_reducible apply len2); rfl; rfl) | ((with_reducible apply as_to); (first | ((with_reducible apply gT_one); trivial; rfl; rfl) | rfl)) | ((with_reducible apply sub_to); (apply set_at; trivial; rfl)) | (with_reducible apply chain_to)
  | (with_reducible apply ex_int) | ((with_reducible apply ex_rg1); (first | omega | rotate_left)) | ((with_reducible apply ex_rg2); (first | omega | rotate_left)) | (with_reducible apply ex_par) | (with_reducible apply ex_par3) | ((with_reducible apply ex_seq); trivial))
/-- the table that law makes -/
def MostAt (g : G) (N mu : Nat) : Prop := mu < N ∧ ∃ rows, g[mu]? = some (.lst rows) ∧ ∀ i : Nat, 3 ≤ i → i ≤ 18 → ∃ r row, rows[i]? = some (.obj r) ∧ r < N ∧ g[r]? = some (.lst row) ∧ ∀ j : Nat, 2 ≤ j → j ≤ 16 → row[j]? = some (.int (arr (evenL j i)))
theorem MostAt.kp {g g' : G} {N mu : Nat} {L : List Nat} (h : MostAt g N mu) (k : Kp L g g') (hL : ∀ b ∈ L, N ≤ b) : MostAt g' N mu := by
  obtain ⟨h0, rows, h1, h2⟩ := h
  refine ⟨h0, rows, k.2 _ _ (fun z => by have := hL _ z; omega) h1, fun i i1 i2 => ?_⟩
  obtain ⟨r, row, a, b, c, d⟩ := h2 i i1 i2
  exact ⟨r, row, a, b, k.2 _ _ (fun z => by have := hL _ z; omega) c, d⟩
theorem MostAt.pre {g g' : G} {N mu : Nat} (h : MostAt g N mu) (k : Pre g g') : MostAt g' N mu := h.kp (L := []) (.pre k) (fun _ z => nomatch z)
theorem Box.kp {g g' : G} {b : Nat} {k : Int} (h : Box g b k) (p : Pre g g') : Box g' b k := by
  obtain ⟨x, m, c, h1, h2⟩ := h
  exact ⟨x, m, c, p.get h1, h2⟩
theorem Thing.lt {g : G} {u : U} {k : Nat} (h : Thing g u) (e : u = .obj k) : k < g.length := by
  cases h with
  | lst n xs h _ => cases e; exact lt_of_get h
  | tup n i h => cases e; exact lt_of_get h
  | dct n kvs h => cases e; exact lt_of_get h
  | _ => cases e
/-- a handed thing that may be a copy -/
structure Cp (g0 g : G) (u u' : U) : Prop where
  th : Thing g u'
  eq : betw 2 16 u' = betw 2 16 u
  fr : ∀ n xs, u' = .obj n → g[n]? = some (.lst xs) → g0.length ≤ n
  int : ∀ i, u = .int i → u' = .int i
theorem Cp.pre {g0 g g' : G} {u u' : U} (h : Cp g0 g u u') (p : Pre g g') : Cp g0 g' u u' := by
  refine ⟨h.th.pre p, h.eq, fun n xs e e2 => ?_, h.int⟩
  cases h.th with
  | lst m' ys h1 hz =>
    cases e
    exact h.fr _ ys rfl h1
  | tup m' i h1 =>
    cases e
    rw [p.get h1] at e2; cases e2
  | dct m' kvs h1 =>
    cases e
    rw [p.get h1] at e2; cases e2
  | _ => cases e
theorem copy_ok {g0 g : G} {u : U} {τ : Sl} {Q : U → G → Prop} {X : XP} (hu : Thing g u) (h0 : Pre g0 g) (ht : τ[10]? = some (some u)) (q : ∀ u' l, Cp g0 (g ++ l) u u' → Q u' (g ++ l)) :
    ((eIf (tE (eUn (uIsI [.list]) (eVar 10))) (eN uList (aCons (eVar 10) aNil)) (eVar 10)) τ g).sat Q X := by
  have triv : ∀ (hn : ∀ n xs, u = .obj n → g[n]? = some (.lst xs) → False), Q u g := fun hn => by
    have := q u [] 
    rw [List.append_nil] at this
    exact this ⟨hu, rfl, fun n xs e1 e2 => (hn n xs e1 e2).elim, fun _ h => h⟩
  refine w_eIf (w_E (w_un (w_var ht ?_)))
  cases hu with
  | lst n xs h hz =>
    repeat fail
    refine w_var ht ?_
    repeat fail
    refine q _ _ ⟨.lst _ xs get_last hz, rfl, fun m ys e1 e2 => ?_, fun _ h => nomatch h⟩
    cases e1; exact h0.le
  | tup n i h =>
    repeat fail
    refine w_var ht (triv fun m xs e1 e2 => ?_)
    cases e1; rw [h] at e2; cases e2
  | dct n kvs h =>
    repeat fail
    refine w_var ht (triv fun m xs e1 e2 => ?_)
    cases e1; rw [h] at e2; cases e2
  | _ =>
    repeat fail
    refine w_var ht (triv fun m xs e1 e2 => ?_)
    cases e1
theorem copies_ok {g0 g : G} {u v : U} {τ : Sl} {p : Nat} {Q : U → G → Prop} {X : XP} (hu : Thing g u) (hv : Thing g v) (h0 : Pre g0 g) (ht : τ[7]? = some (some (.obj p))) (hl : 10 < τ.length) (hp : g[p]? = some (.lst [u, v]))
    (q : ∀ u' v' n l, Cp g0 (g ++ l) u u' → Cp g0 (g ++ l) v v' → g0.length ≤ n → (g ++ l)[n]? = some (.lst [u', v']) → (∀ k, u' = .obj k → k ≠ n) → (∀ k, v' = .obj k → k ≠ n) → Q (.obj n) (g ++ l)) :
    ((eLc (iSeq (eVar 7)) (gN 10) tYs (eIf (tE (eUn (uIsI [.list]) (eVar 10))) (eN uList (aCons (eVar 10) aNil)) (eVar 10)) [10]) τ g).sat Q X := by
  refine w_lc (w_iseq (w_var ht (ex_seq (sq_lst hp) ?_)))
  show (lcGo (.seq p false [u, v]) _ _ _ _ 2 0 [] _).sat _ _
  have hs : ∀ x : U, ((wipeU τ [10]).set 10 (some x))[10]? = some (some x) := fun x => List.getElem?_set_self (by simpa [wipeU] using hl)
  refine w_lc_cons (by simp [Wk.ok, sq_lst hp]) rfl rfl (by decide) (w_tYs (br_t ?_))
  refine copy_ok hu h0 (hs u) fun u' l c1 => ?_
  refine w_lc_cons (by simp [Wk.ok, sq_lst (get_app hp)]) rfl rfl (Nat.le_of_ble_eq_true rfl) (w_tYs (br_t ?_))
  refine copy_ok (hv.pre ⟨l, rfl⟩) h0.app (hs v) fun v' l2 c2 => ?_
  refine w_lc_nil (by unfold Wk.ok; exact decide_eq_true (sq_lst (get_app (get_app hp)))) ?_
  have := q u' v' ((g ++ l) ++ l2).length (l ++ l2 ++ [.lst [u', v']])
  rw [← List.append_assoc, ← List.append_assoc] at this
  refine this ((c1.pre ⟨l2, rfl⟩).pre ⟨_, rfl⟩) (c2.pre ⟨_, rfl⟩) (h0.app.app.le) get_last (fun k e => ?_) (fun k e => ?_)
  · have := (c1.pre (g' := g ++ l ++ l2) ⟨l2, rfl⟩).th.lt e; omega
  · have := c2.th.lt e; omega
/-- the odd ones: what the error told is the very thing -/
theorem tail_ok {g0 g : G} {w u' v' : U} {at_ : Nat} {p m : Nat} {nm : Str} {D : Ps} {o0 o1 o2 o3 o4 o5 o6 o10 : Option U} (hp : g[p]? = some (.lst [u', v'])) (ha : (at_ = 0 ∧ w = u' ∧ nm = "own") ∨ (at_ = 1 ∧ w = v' ∧ nm = "other")) (hm : g[m]? = some (.tup [.str nm, w])) (hw : Thing g w)
    (hf : ∀ n xs, w = .obj n → g[n]? = some (.lst xs) → g0.length ≤ n) (hnp : ∀ n, w = .obj n → n ≠ p) (h0 : Pre g0 g) (q : ∀ g', Pre g0 g' → D.rt (.bl true) g') :
    ((sSeq (sIf (tE (eBin uNe (eBin uIdx (eVar 9) (eC (.int 0))) (eBin uIdx (eN uLst (aCons (eC (.str "own")) (aCons (eC (.str "other")) aNil))) (eVar 8))))
  (sRt (eC (.bl false)))
  sNx)
  (sSeq (sIf (tE (eUn (uIsI [.list]) (eBin uIdx (eVar 7) (eVar 8))))
  (sSeq (sEx (eMe isLstU uAppend (eBin uIdx (eVar 7) (eVar 8)) (aCons (eC (.int 7)) aNil)))
  (sRt (eAnd (eUn (uIsI [.list]) (eBin uIdx (eVar 9) (eC (.int 1)))) (eBin uEq (eN uLen (aCons (eBin uIdx (eVar 9) (eC (.int 1))) aNil)) (eN uLen (aCons (eBin uIdx (eVar 7) (eVar 8)) aNil))))))
  sNx)
  (sSeq (sIf (tE (eUn (uIsI [.dict]) (eBin uIdx (eVar 7) (eVar 8))))
  (sRt (eAnd (eUn (uIsI [.dict]) (eBin uIdx (eVar 9) (eC (.int 1)))) (eBin uEq (eN uLen (aCons (eBin uIdx (eVar 9) (eC (.int 1))) aNil)) (eN uLen (aCons (eBin uIdx (eVar 7) (eVar 8)) aNil)))))
  sNx)
  (sRt (eG 2 0 (fun us _ => (f__law_same 4) us) (aCons (eBin uIdx (eVar 9) (eC (.int 1))) (aCons (eBin uIdx (eVar 7) (eVar 8)) aNil)) aNil))))) [o0, o1, o2, o3, o4, o5, o6, some (.obj p), some (.int at_), some (.obj m), o10] g).sat D := by
  have hx : atU [u', v'] (at_ : Int) = some w := by rcases ha with ⟨rfl, rfl, _⟩ | ⟨rfl, rfl, _⟩ <;> rfl
  have hy : atU [U.str "own", U.str "other"] (at_ : Int) = some (.str nm) := by rcases ha with ⟨rfl, _, rfl⟩ | ⟨rfl, _, rfl⟩ <;> rfl
  have hq : ∀ g', Pre g g' → Pre g0 g' := fun g' h => h0.trans h
  repeat fail
  · intro h; exact absurd rfl h
  · intro _
    cases hw with
    | lst n xs h hz =>
      have e1 := hnp n rfl
      have e2 : n ≠ m := fun e => by subst e; rw [h] at hm; cases hm
      have e3 := hf n xs rfl h
      have e4 : xs.length < sizeLine := by rw [PySem.sizeLine_eq]; omega
      repeat fail
      show D.rt _ _
      rw [decide_eq_true rfl]
      exact q _ (h0.app.set e3)
    | tup n i h =>
      repeat fail
      refine same_tup (l := [i]) (n := 2) (get_app h) (get_app h) (by simp) ?_
      exact q _ h0.app
    | dct n kvs h =>
      repeat fail
      show D.rt _ _
      rw [decide_eq_true rfl]
      exact q _ h0.app
    | non =>
      repeat fail
      refine same_non (n := 3) ?_
      exact q _ h0.app
    | bl k =>
      repeat fail
      refine same_bl (n := 3) ?_
      exact q _ h0.app
    | int k =>
      repeat fail
      refine same_int (n := 3) ?_
      exact q _ h0.app
    | str s hs =>
      repeat fail
      refine same_str (n := 3) hs ?_
      exact q _ h0.app
theorem right_ok {g : G} {N mu : Nat} {u v : U} {known : Bool} {named : Int} {Q : U → G → Prop} {X : XP} (hM : MostAt g N mu) (hu : Thing g u) (hv : Thing g v) (q : Q (.bl true) g) : (f__law_right [.obj mu, .bl known, .int named, u, v] g).sat Q X := by
  unfold f__law_right
  refine w_gc (w_fn ?_)
  unfold b__law_right
  simp only [List.map_cons, List.map_nil, List.length_cons, List.length_nil, Nat.reduceSub, List.replicate_succ, List.replicate_zero, List.cons_append, List.nil_append, List.append_nil, Nat.zero_add, Nat.reduceAdd]
  cases known
  all_goals
    repeat fail
    refine is_good_ok (hu.pre ⟨_, rfl⟩) ?_
    repeat fail
    cases e1 : betw 2 16 u with
    | false =>
      repeat fail
      · intro h; cases h
      · intro _
        repeat fail
        refine copies_ok (g0 := g) (hu.pre ⟨_, rfl⟩) (hv.pre ⟨_, rfl⟩) ⟨_, rfl⟩ rfl (by simp) get_last fun u' v' n l c1 c2 hn hnl k1 k2 => ?_
        repeat fail
        refine told_ok c1.th c2.th ?_ ?_ ?_
        · intro a b r m l' ea eb h1 h2
          rw [c1.eq, e1] at h1; cases h1
        · intro m l' h1 hm hml
          repeat fail
          · intro h; cases h
          · intro _
            fail
            refine tail_ok (g0 := g) (w := u') (at_ := 0) (get_app hnl) (.inl ⟨rfl, rfl, rfl⟩) hml (c1.th.pre ⟨_, rfl⟩) ((c1.pre ⟨_, rfl⟩).fr) k1 (by rw [List.append_assoc, List.append_assoc]; exact ⟨_, rfl⟩) ?_
            exact fun g' p => ⟨rfl, p, q⟩
        · intro m l' h1
          rw [c1.eq, e1] at h1; cases h1
    | true =>
      repeat fail
      refine is_good_ok (hv.pre ⟨_, rfl⟩) ?_
      repeat fail
      cases e2 : betw 2 16 v with
      | false =>
        repeat fail
        · intro h; cases h
        · intro _
          repeat fail
          refine copies_ok (g0 := g) (hu.pre ⟨_, rfl⟩) (hv.pre ⟨_, rfl⟩) ⟨_, rfl⟩ rfl (by simp) get_last fun u' v' n l c1 c2 hn hnl k1 k2 => ?_
          repeat fail
          refine told_ok c1.th c2.th ?_ ?_ ?_
          · intro a b r m l' ea eb h1 h2
            rw [c2.eq, e2] at h2; cases h2
          · intro m l' h1
            rw [c1.eq, e1] at h1; cases h1
          · intro m l' h1 h2 hm hml
            repeat fail
            · intro h; cases h
            · intro _
              fail
              refine tail_ok (g0 := g) (w := v') (at_ := 1) (get_app hnl) (.inr ⟨rfl, rfl, rfl⟩) hml (c2.th.pre ⟨_, rfl⟩) ((c2.pre ⟨_, rfl⟩).fr) k2 (by rw [List.append_assoc, List.append_assoc]; exact ⟨_, rfl⟩) ?_
              exact fun g' p => ⟨rfl, p, q⟩
      | true =>
        obtain ⟨a, rfl, a1, a2⟩ := betw_int e1
        obtain ⟨b, rfl, b1, b2⟩ := betw_int e2
        obtain ⟨h0, rows, hr, hrow⟩ := hM
        have hx : ∀ (K : Nat) (a b : Int), (K = 1 ∨ K = 2) → 2 ≤ a → a ≤ 16 → 2 ≤ b → b ≤ 16 → ∃ r row, atU rows (b + K) = some (.obj r) ∧ g[r]? = some (.lst row) ∧ atU row a = some (.int (num K a b)) := by
          intro K a b hK a1 a2 b1 b2
          obtain ⟨r, row, c1, c2, c3, c4⟩ := hrow (b.toNat + K) (by omega) (by omega)
          refine ⟨r, row, ?_, c3, ?_⟩
          · have := atU_nat c1
            rw [← this]; congr 1; omega
          · have := atU_nat (c4 a.toNat (by omega) (by omega))
            rw [show atU row a = atU row (a.toNat : Int) by congr 1; omega, this]; rfl
        obtain ⟨r1, row1, x1, x2, x3⟩ := hx 1 a b (.inl rfl) a1 a2 b1 b2
        obtain ⟨r2, row2, y1, y2, y3⟩ := hx 2 a b (.inr rfl) a1 a2 b1 b2
        obtain ⟨s1, sow1, z1, z2, z3⟩ := hx 1 b a (.inl rfl) b1 b2 a1 a2
        obtain ⟨s2, sow2, w1, w2, w3⟩ := hx 2 b a (.inr rfl) b1 b2 a1 a2
        have x1 : atU rows (b + 1) = some (.obj r1) := x1
        have y1 : atU rows (b + 2) = some (.obj r2) := y1
        have z1 : atU rows (a + 1) = some (.obj s1) := z1
        have w1 : atU rows (a + 2) = some (.obj s2) := w1
        repeat fail
        · intro _
          repeat fail
          refine copies_ok (g0 := g) (hu.pre (.app ⟨_, rfl⟩)) (hv.pre (.app ⟨_, rfl⟩)) (.app ⟨_, rfl⟩) rfl (by simp) (get_app get_last) fun u' v' n l c1 c2 hn hnl k1 k2 => ?_
          obtain rfl := c1.int _ rfl
          obtain rfl := c2.int _ rfl
          repeat fail
          refine told_ok c1.th c2.th ?_ ?_ ?_
          · intro a' b' r m l' ea eb h1 h2 hm hml hrl
            cases ea; cases eb
            repeat fail
            · intro _
              repeat fail
              · intro _
                repeat fail
                refine same_tup (l := [_, _]) (n := 2) hrl (get_app (get_app get_last)) (by simp) ?_
                exact ⟨rfl, Pre.app (Pre.app (Pre.app (Pre.app Pre.refl))), q⟩
              · intro h; exact absurd rfl h
            · intro h; exact absurd rfl h
          · intro m l' h1
            rw [e1] at h1; cases h1
          · intro m l' _ h1
            rw [e2] at h1; cases h1
        · intro h; exact absurd rfl h
end K50

set_option Elab.async false
set_option linter.all false
set_option maxRecDepth 100000
set_option autoImplicit false
namespace K50
open PM PySem
local macro_rules | `(tactic| trivial) => `(tactic| first
  | assumption | exact get_last | (apply get_app; trivial) | (apply sq_lst; trivial) | (apply sq_tup; trivial) | (apply sq_frz; trivial) | (apply la_lst; trivial) | (apply la_frz; trivial) | (apply seq_app; trivial)
  | (apply get_set; trivial) | (apply get_set_ne; (first | assumption | omega | decide | (simp only [List.length_append, List.length_set, List.length_cons, List.length_nil]; omega)); trivial) | (apply isLst_of; trivial))
local macro_rules | `(tactic| fail) => `(tactic| first
  | (with_reducible apply w_seq) | ((with_reducible apply w_var); rfl) | (with_reducible apply w_c) | (with_reducible apply w_bin) | (with_reducible apply w_un) | (with_reducible apply w_nil) | (with_reducible apply w_cons)
  | (with_reducible apply w_N) | (with_reducible apply w_Me) | ((with_reducible apply lst_to); trivial) | (with_reducible apply w_G) | (with_reducible apply w_dct0) | ((with_reducible apply o_dict1); trivial; trivial; rfl) | (with_reducible apply w_E) | (with_reducible apply w_tNo) | (with_reducible apply w_An) | (with_reducible apply w_Orr) | (with_reducible apply w_eAnd) | (with_reducible apply w_eOr) | (with_reducible apply w_eNo) | (with_reducible apply w_eIf) | (with_reducible apply w_chain)
  | (with_reducible apply w_pNo) | (with_reducible apply w_pSo) | (with_reducible apply w_Sl)
  | (with_reducible apply w_tYs) | (with_reducible apply w_nx) | (with_reducible apply w_bk) | (with_reducible apply w_ct) | (with_reducible apply w_ex) | (with_reducible apply w_rt) | (with_reducible apply w_rtN) | (with_reducible apply w_if) | (with_reducible apply w_as) | (with_reducible apply w_par) | (with_reducible apply w_par3) | (with_reducible apply w_sub) | (with_reducible apply w_rz)
  | (with_reducible apply w_try) | (with_reducible apply try_none) | ((with_reducible apply try_skip); rfl) | ((with_reducible apply try_plain); rfl) | ((with_reducible apply try_named); rfl; exact Nat.le_of_ble_eq_true rfl) | ((with_reducible apply w_xat); trivial; rfl)
  | (with_reducible apply w_rg1) | (with_reducible apply w_rg2) | (with_reducible apply w_iseq)
  | (with_reducible apply o_add) | (with_reducible apply o_sub) | (with_reducible apply o_neg) | (with_reducible apply o_lt) | (with_reducible apply o_le) | (with_reducible apply o_gt) | (with_reducible apply o_ge) | (with_reducible apply o_isn) | (with_reducible apply o_isb) | (with_reducible apply o_tru_b) | (with_reducible apply o_tru_i) | (with_reducible apply o_abs) | (with_reducible apply o_int) | (with_reducible apply o_intb) | (with_reducible apply o_max2) | (with_reducible apply o_min2)
  | ((with_reducible apply o_fdivB); (first | decide | omega | assumption | rotate_left)) | ((with_reducible apply o_mod); (first | decide | omega | assumption | rotate_left)) | ((with_reducible apply o_mulB); (first | decide | omega | assumption)) | ((with_reducible apply o_mul); (first | assumption | rotate_left)) | ((with_reducible apply o_pow); (first | decide | omega | assumption | rotate_left))
  | ((with_reducible apply o_eq); rfl) | ((with_reducible apply o_ne); rfl)
  | ((with_reducible apply o_isi); (first | rfl | (apply ty_obj; trivial; rfl)); (first | exact (show _ = true from rfl) | exact (show _ = false from rfl)))
  | ((with_reducible apply o_lenS); (first | assumption | decide +kernel)) | ((with_reducible apply o_slS); (first | assumption | decide +kernel)) | ((with_reducible apply o_len); trivial) | ((with_reducible apply o_lenD); trivial)
  | ((with_reducible apply o_idx); trivial; (first | rfl | assumption | exact atU_nat0 (get_map (by assumption)) | exact atU_nat (get_map (by assumption)) | skip))
  | ((with_reducible apply o_lst); (first | exact Nat.le_of_ble_eq_true rfl | omega | assumption)) | ((with_reducible apply o_tup); (first | exact Nat.le_of_ble_eq_true rfl | omega | assumption))
  | ((with_reducible apply o_append); trivial; (first | assumption | rotate_left)) | ((with_reducible apply o_sl); trivial) | ((with_reducible apply o_list); trivial) | ((with_reducible apply o_divmod); (try first | decide | omega))
  | (with_reducible apply br_t) | (with_reducible apply br_f) | (with_reducible apply br_nt) | (with_reducible apply br_nf) | (with_reducible apply br_d) | (with_reducible apply br_nd)
  | ((with_reducible apply len2); rfl; rfl) | ((with_reducible apply as_to); (first | ((with_reducible apply gT_one); trivial; rfl; rfl) | rfl)) | ((with_reducible apply sub_to); (apply set_at; trivial; rfl)) | (with_reducible apply chain_to)
  | (with_reducible apply ex_int) | ((with_reducible apply ex_rg1); (first | omega | rotate_left)) | ((with_reducible apply ex_rg2); (first | omega | rotate_left)) | (with_reducible apply ex_par) | (with_reducible apply ex_par3) | ((with_reducible apply ex_seq); trivial))

theorem take_get {g : G} {n i : Nat} {o : O} (h : g[i]? = some o) (hi : i < n) : (g.take n)[i]? = some o := by rw [List.getElem?_take_of_lt hi]; exact h
theorem odd_fin {g G' : G} {b : Nat} {k k' : Int} {u : U} {Q : U → G → Prop} (h : ∀ u g' k', Kp [b] g g' → Box g' b k' → k ≤ k' → k' ≤ k + 1 → Thing g' u → (∀ n, u = .obj n → n ≠ b) → Q u g') (hlt : b < g.length) (hK : Kp [b] g G') (hB : Box G' b k') (k0 : k ≤ k') (k1 : k' ≤ k + 1) (hT : Thing G' u) (ho : ∀ n, u = .obj n → g.length ≤ n) :
    Q u G' ∧ (refs g.length u = true → Q u (G'.take g.length)) := by
  refine ⟨h u G' k' hK hB k0 k1 hT (fun n e => by have := ho n e; omega), fun hr => h u _ k' ⟨?_, fun n o hn e => ?_⟩ ?_ k0 k1 ?_ (fun n e => by have := ho n e; omega)⟩
  · rw [List.length_take]; have := hK.1; omega
  · exact take_get (hK.2 n o hn e) (lt_of_get e)
  · obtain ⟨x, m, c, h1, h2⟩ := hB
    exact ⟨x, m, c, take_get h1 hlt, h2⟩
  · cases hT with
    | non => exact .non
    | bl b => exact .bl b
    | int i => exact .int i
    | str s h => exact .str s h
    | _ => exact absurd (of_decide_eq_true hr) (by have := ho _ rfl; omega)
set_option maxHeartbeats 0 in
theorem odd_ok {g : G} {b : Nat} {k good : Int} {Q : U → G → Prop} {X : XP} (hb : Box g b k) (hk : 0 ≤ k ∧ k < 1000000)
    (h : ∀ u g' k', Kp [b] g g' → Box g' b k' → k ≤ k' → k' ≤ k + 1 → Thing g' u → (∀ n, u = .obj n → n ≠ b) → Q u g') : (f__law_odd [.obj b, .int good] g).sat Q X := by
  have hlt := hb.lt
  unfold f__law_odd
  refine w_gcB (w_fn ?_)
  unfold b__law_odd
  simp only [List.map_cons, List.map_nil, List.length_cons, List.length_nil, Nat.reduceSub, List.replicate_succ, List.replicate_zero, List.cons_append, List.nil_append, List.append_nil, Nat.zero_add, Nat.reduceAdd]
  repeat fail
  have pre : ∀ l : List O, Pre g (g ++ l) := fun l => ⟨l, rfl⟩
  refine take_ok (hb.kp ?_) hk (by omega) fun r o k' r0 r1 k0 k1 hb' => ?_
  · repeat (first | exact Pre.refl | apply Pre.app)
  have hr : r = 0 ∨ r = 1 ∨ r = 2 ∨ r = 3 ∨ r = 4 ∨ r = 5 ∨ r = 6 ∨ r = 7 ∨ r = 8 ∨ r = 9 ∨ r = 10 ∨ r = 11 ∨ r = 12 ∨ r = 13 ∨ r = 14 ∨ r = 15 ∨ r = 16 := by omega
  rcases hr with rfl | rfl | rfl | rfl | rfl | rfl | rfl | rfl | rfl | rfl | rfl | rfl | rfl | rfl | rfl | rfl | rfl
  all_goals
    repeat fail
    refine odd_fin h hlt (Kp.trans (Kp.pre (by repeat (first | exact Pre.refl | apply Pre.app))) (Kp.set (by simp))) hb' k0 k1 ?_ (fun n e => by cases e <;> (first | exact Nat.le_refl _ | (simp only [List.length_append]; omega)))
    first
      | exact .int _
      | exact .bl _
      | exact .non
      | exact .str _ (.inl rfl)
      | exact .str _ (.inr rfl)
      | exact .lst _ [.int good] (by trivial) (by simp)
      | exact .lst _ [] (by trivial) (by simp)
      | exact .tup _ good (by trivial)
      | exact .dct _ [] (by trivial)
      | exact .dct _ _ (by trivial)
end K50

set_option Elab.async false
set_option linter.all false
set_option maxRecDepth 100000
set_option autoImplicit false
namespace K50
open PM PySem
local macro_rules | `(tactic| trivial) => `(tactic| first
  | assumption | exact get_last | (apply get_app; trivial) | (apply sq_lst; trivial) | (apply sq_tup; trivial) | (apply sq_frz; trivial) | (apply la_lst; trivial) | (apply la_frz; trivial) | (apply seq_app; trivial)
  | (apply get_set; trivial) | (apply get_set_ne; (first | assumption | omega | decide | (simp only [List.length_append, List.length_set, List.length_cons, List.length_nil]; omega)); trivial) | (apply isLst_of; trivial))
local macro_rules | `(tactic| fail) => `(tactic| first
  | (with_reducible apply w_seq) | ((with_reducible apply w_var); rfl) | (with_reducible apply w_c) | (with_reducible apply w_bin) | (with_reducible apply w_un) | (with_reducible apply w_nil) | (with_reducible apply w_cons)
  | (with_reducible apply w_N) | (with_reducible apply w_Me) | ((with_reducible apply lst_to); trivial) | (with_reducible apply w_G) | (with_reducible apply w_dct0) | ((with_reducible apply o_dict1); trivial; trivial; rfl) | (with_reducible apply w_E) | (with_reducible apply w_tNo) | (with_reducible apply w_An) | (with_reducible apply w_Orr) | (with_reducible apply w_eAnd) | (with_reducible apply w_eOr) | (with_reducible apply w_eNo) | (with_reducible apply w_eIf) | (with_reducible apply w_chain)
  | (with_reducible apply w_pNo) | (with_reducible apply w_pSo) | (with_reducible apply w_Sl)
  | (with_reducible apply w_tYs) | (with_reducible apply w_nx) | (with_reducible apply w_bk) | (with_reducible apply w_ct) | (with_reducible apply w_ex) | (with_reducible apply w_rt) | (with_reducible apply w_rtN) | (with_reducible apply w_if) | (with_reducible apply w_as) | (with_reducible apply w_par) | (with_reducible apply w_par3) | (with_reducible apply w_sub) | (with_reducible apply w_rz)
  | (with_reducible apply w_try) | (with_reducible apply try_none) | ((with_reducible apply try_skip); rfl) | ((with_reducible apply try_plain); rfl) | ((with_reducible apply try_named); rfl; exact Nat.le_of_ble_eq_true rfl) | ((with_reducible apply w_xat); trivial; rfl)
  | (with_reducible apply w_rg1) | (with_reducible apply w_rg2) | (with_reducible apply w_iseq)
  | (with_reducible apply o_add) | (with_reducible apply o_sub) | (with_reducible apply o_neg) | (with_reducible apply o_lt) | (with_reducible apply o_le) | (with_reducible apply o_gt) | (with_reducible apply o_ge) | (with_reducible apply o_isn) | (with_reducible apply o_isb) | (with_reducible apply o_tru_b) | (with_reducible apply o_tru_i) | (with_reducible apply o_abs) | (with_reducible apply o_int) | (with_reducible apply o_intb) | (with_reducible apply o_max2) | (with_reducible apply o_min2)
  | ((with_reducible apply o_addL); trivial; trivial; (first | exact Nat.le_of_ble_eq_true rfl | omega | assumption | rotate_left)) | ((with_reducible apply o_mulL); trivial; (first | omega | decide | assumption | rotate_left))
  | ((with_reducible apply o_fdivB); (first | decide | omega | assumption | rotate_left)) | ((with_reducible apply o_mod); (first | decide | omega | assumption | rotate_left)) | ((with_reducible apply o_mulB); (first | decide | omega | assumption)) | ((with_reducible apply o_mul); (first | assumption | rotate_left)) | ((with_reducible apply o_pow); (first | decide | omega | assumption | rotate_left))
  | ((with_reducible apply o_eq); rfl) | ((with_reducible apply o_ne); rfl)
  | ((with_reducible apply o_isi); (first | rfl | (apply ty_obj; trivial; rfl)); (first | exact (show _ = true from rfl) | exact (show _ = false from rfl)))
  | ((with_reducible apply o_lenS); (first | assumption | decide +kernel)) | ((with_reducible apply o_slS); (first | assumption | decide +kernel)) | ((with_reducible apply o_len); trivial) | ((with_reducible apply o_lenD); trivial)
  | ((with_reducible apply o_idx); trivial; (first | rfl | assumption | exact atU_nat0 (get_map (by assumption)) | exact atU_nat (get_map (by assumption)) | skip))
  | ((with_reducible apply o_lst); (first | exact Nat.le_of_ble_eq_true rfl | omega | assumption)) | ((with_reducible apply o_tup); (first | exact Nat.le_of_ble_eq_true rfl | omega | assumption))
  | ((with_reducible apply o_append); trivial; (first | assumption | rotate_left)) | ((with_reducible apply o_sl); trivial) | ((with_reducible apply o_list); trivial) | ((with_reducible apply o_divmod); (try first | decide | omega))
  | (with_reducible apply br_t) | (with_reducible apply br_f) | (with_reducible apply br_nt) | (with_reducible apply br_nf) | (with_reducible apply br_d) | (with_reducible apply br_nd)
  | ((with_reducible apply len2); rfl; rfl) | ((with_reducible apply as_to); (first | ((with_reducible apply gT_one); trivial; rfl; rfl) | rfl)) | ((with_reducible apply sub_to); (apply set_at; trivial; rfl)) | (with_reducible apply chain_to)
  | (with_reducible apply ex_int) | ((with_reducible apply ex_rg1); (first | omega | rotate_left)) | ((with_reducible apply ex_rg2); (first | omega | rotate_left)) | (with_reducible apply ex_par) | (with_reducible apply ex_par3) | ((with_reducible apply ex_seq); trivial))

def brow : Nat → List Int
  | 0 => [1]
  | n + 1 => [1] ++ ((List.range n).map fun k => (brow n).getD k 0 + (brow n).getD (k + 1) 0) ++ [1]
theorem brow_len : ∀ n, (brow n).length = n + 1
  | 0 => rfl
  | n + 1 => by unfold brow; simp
def mx (n : Nat) (prev : List Int) : Int := match (List.range (n + 1)).map fun s => (brow n).getD s 0 * prev.getD (n - s) 0 with | i :: r => maxL i r | [] => 0
def frow : Nat → List Int
  | 0 => [1] ++ (List.replicate 16 [0]).flatten
  | k + 1 => (List.range 17).map fun n => mx n (frow k)
theorem frow_len : ∀ k, (frow k).length = 17
  | 0 => rfl
  | k + 1 => by unfold frow; simp
theorem frow_arr : ((List.range 16).all fun i => (List.range 15).all fun j => (frow (i + 3)).getD (j + 2) 0 == (arr (evenL (j + 2) (i + 3)) : Int)) = true := by decide +kernel
theorem brow_b : ((List.range 17).all fun i => (brow i).all fun x => decide (x.natAbs < 2 ^ 100)) = true := by decide +kernel
theorem frow_b : ((List.range 19).all fun i => (frow i).all fun x => decide (x.natAbs < 2 ^ 100)) = true := by decide +kernel
theorem brow_s {n k : Nat} (h : n < 17) : ((brow n).getD k 0).natAbs < 2 ^ 100 := by
  have h1 := List.all_eq_true.mp brow_b n (List.mem_range.mpr h)
  by_cases hk : k < (brow n).length
  · rw [List.getD_eq_getElem?_getD, List.getElem?_eq_getElem hk]
    exact of_decide_eq_true (List.all_eq_true.mp h1 _ (List.getElem_mem hk))
  · rw [List.getD_eq_getElem?_getD, List.getElem?_eq_none (by omega)]; decide
theorem frow_s {n k : Nat} (h : n < 19) : ((frow n).getD k 0).natAbs < 2 ^ 100 := by
  have h1 := List.all_eq_true.mp frow_b n (List.mem_range.mpr h)
  by_cases hk : k < (frow n).length
  · rw [List.getD_eq_getElem?_getD, List.getElem?_eq_getElem hk]
    exact of_decide_eq_true (List.all_eq_true.mp h1 _ (List.getElem_mem hk))
  · rw [List.getD_eq_getElem?_getD, List.getElem?_eq_none (by omega)]; decide
/-- rows of a table that a list at R holds -/
def RowsAt (g : G) (R : Nat) (f : Nat → List Int) (n : Nat) : Prop := ∃ rows, g[R]? = some (.lst rows) ∧ rows.length = n ∧ ∀ j : Nat, j < n → ∃ r, rows[j]? = some (.obj r) ∧ r ≠ R ∧ g[r]? = some (.lst ((f j).map U.int))
theorem RowsAt.pre {g g' : G} {R n : Nat} {f : Nat → List Int} (h : RowsAt g R f n) (p : Pre g g') : RowsAt g' R f n := by
  obtain ⟨rows, h1, h2, h3⟩ := h
  refine ⟨rows, p.get h1, h2, fun j hj => ?_⟩
  obtain ⟨r, a, b, c⟩ := h3 j hj
  exact ⟨r, a, b, p.get c⟩
theorem RowsAt.snoc {g : G} {R n r : Nat} {rows : List U} {f : Nat → List Int} (h1 : g[R]? = some (.lst rows)) (h2 : rows.length = n) (h3 : ∀ j : Nat, j < n → ∃ r, rows[j]? = some (.obj r) ∧ r ≠ R ∧ g[r]? = some (.lst ((f j).map U.int))) (hr : g[r]? = some (.lst ((f n).map U.int))) (hn : r ≠ R) :
    RowsAt (g.set R (.lst (rows ++ [.obj r]))) R f (n + 1) := by
  refine ⟨_, get_set h1, by simp [h2], fun j hj => ?_⟩
  by_cases e : j = n
  · subst e
    exact ⟨r, by rw [List.getElem?_append_right (by omega), h2]; simp, hn, get_set_ne (Ne.symm hn) hr⟩
  · obtain ⟨q, a, b, c⟩ := h3 j (by omega)
    exact ⟨q, by rw [List.getElem?_append_left (by omega)]; exact a, b, get_set_ne (Ne.symm b) c⟩
theorem o_maxM {g : G} {m n : Nat} {h : Nat → Int} {Q : U → G → Prop} {X : XP} (e : g[m]? = some (.lst ((List.range (n + 1)).map fun s => U.int (h s)))) (q : Q (.int (match (List.range (n + 1)).map h with | i :: r => maxL i r | [] => 0)) g) : (lift (uMax [.obj m]) g).sat Q X := by
  have e2 : (List.range (n + 1)).map (fun s => U.int (h s)) = ((List.range (n + 1)).map h).map U.int := by rw [List.map_map]; rfl
  rw [e2] at e
  cases e3 : (List.range (n + 1)).map h with
  | nil => simp at e3
  | cons i r =>
    rw [e3] at e q
    exact o_maxL (la_lst e) (intsOf_map (i :: r)) q
theorem most_ok {g : G} {Q : U → G → Prop} {X : XP} (q : ∀ m l, MostAt (g ++ l) (g ++ l).length m → Q (.obj m) (g ++ l)) : (f__law_most [] g).sat Q X := by
  unfold f__law_most
  refine w_gcN (w_fn ?_)
  unfold b__law_most
  simp only [List.map_cons, List.map_nil, List.length_cons, List.length_nil, Nat.reduceSub, List.replicate_succ, List.replicate_zero, List.cons_append, List.nil_append, List.append_nil, Nat.zero_add, Nat.reduceAdd]
  repeat fail
  generalize hR : List.length (g ++ [O.lst [U.int 1]]) = R
  have hR1 : g.length < R := by rw [← hR]; simp
  refine w_for ?_
  repeat fail
  refine w_forGo (fun i τ g' => ∃ o1 o2 o3 o4 o5, τ = [some (.obj R), o1, o2, o3, o4, o5] ∧ Pre g g' ∧ RowsAt g' R brow (i + 1)) ?_ (fun _ _ _ _ _ => rfl) ?_ ?_
  · refine ⟨_, _, _, _, _, rfl, Pre.app (Pre.app .refl), _, by rw [← hR]; exact get_last, rfl, fun j hj => ?_⟩
    have : j = 0 := by omega
    subst this
    exact ⟨g.length, rfl, by omega, get_app get_last⟩
  · rintro i τ g1 hi ⟨o1, o2, o3, o4, o5, rfl, hp, rows, h1, h2, h3⟩
    have hi : i < 16 := hi
    refine ⟨_, _, rfl, rfl, ?_⟩
    obtain ⟨r, a1, a2, a3⟩ := h3 i (by omega)
    have hlast := atU_last h2 a1
    repeat fail
    refine w_lc ?_
    repeat fail
    refine w_lc_pure (fun k => .int ((brow i).getD k 0 + (brow i).getD (k + 1) 0)) rfl ?_ (fun k hk => ⟨_, _, rfl, rfl, ?_⟩) ?_
    · show (0 + (i : Int)).toNat ≤ sizeLine
      rw [PySem.sizeLine_eq]; omega
    · have hk : k < i := by have : k < (0 + (i : Int)).toNat := hk; omega
      have hl := brow_len i
      have k0 : atU ((brow i).map U.int) (0 + (k : Int)) = some (.int ((brow i).getD k 0)) := atU_nat0 (get_mapD (by omega))
      have k1 : atU ((brow i).map U.int) (0 + (k : Int) + 1) = some (.int ((brow i).getD (k + 1) 0)) := atU_nat1 (get_mapD (by omega))
      repeat fail
      exact ⟨rfl, rfl⟩
    · rw [show (Wk.rng 0 (0 + (i : Int)).toNat).len = i by show (0 + (i : Int)).toNat = i; omega]
      repeat fail
      · refine ⟨_, _, _, _, _, rfl, Pre.set (by repeat (first | exact hp | apply Pre.app)) (by omega), RowsAt.snoc (by trivial) h2 (fun j hj => ?_) (r := _) ?_ ?_⟩
        · obtain ⟨r, a, b, c⟩ := h3 j hj
          exact ⟨r, a, b, by trivial⟩
        · rw [show (brow (i + 1)).map U.int = [U.int 1] ++ List.map (fun k => U.int ((brow i).getD k 0 + (brow i).getD (k + 1) 0)) (List.range i) ++ [U.int 1] by rw [brow]; simp]
          exact get_last
        · have := lt_of_get h1
          simp only [List.length_append]; omega
      all_goals (rw [PySem.sizeLine_eq]; first | omega | (simp; omega))
  · rintro τ g1 ⟨o1, o2, o3, o4, o5, rfl, hp, hrows⟩
    have hrows : RowsAt g1 R brow 17 := hrows
    obtain ⟨rows, h1, h2, h3⟩ := hrows
    repeat fail
    generalize hF : List.length _ = F
    have hF1 : g1.length < F := by rw [← hF]; simp only [List.length_append, List.length_cons, List.length_nil]; omega
    have hRF : R ∉ [F] := by have := lt_of_get h1; simp; omega
    refine w_for ?_
    repeat fail
    refine w_forGo (fun k τ g' => ∃ o1 o2 o3 o5, τ = [some (.obj R), o1, o2, o3, some (.obj F), o5] ∧ Pre g g' ∧ Kp [F] g1 g' ∧ RowsAt g' F frow (k + 1)) ?_ (fun _ _ _ _ _ => rfl) ?_ ?_
    · refine ⟨_, _, _, _, rfl, by repeat (first | exact hp | apply Pre.app), .pre (by repeat (first | exact Pre.refl | apply Pre.app)), _, by rw [← hF]; exact get_last, rfl, fun j hj => ?_⟩
      have : j = 0 := by omega
      subst this
      refine ⟨_, rfl, ?_, get_app get_last⟩
      rw [← hF]; simp only [List.length_append, List.length_cons, List.length_nil]; omega
    · rintro k τ g' hk ⟨o1, o2, o3, o5, rfl, hp', hK, fs, f1, f2, f3⟩
      have hk : k < 18 := hk
      refine ⟨_, _, rfl, rfl, ?_⟩
      obtain ⟨r, a1, a2, a3⟩ := f3 k (by omega)
      have hlast := atU_last f2 a1
      repeat fail
      refine w_lc ?_
      repeat fail
      refine w_lcGo (fun n l g2 => Pre g' g2 ∧ l = (List.range n).map fun n => .int (mx n (frow k))) ⟨.refl, rfl⟩ (fun _ _ _ _ _ => rfl) (by show (17 : Int).toNat ≤ sizeLine; rw [PySem.sizeLine_eq]; decide) ?_ ?_
      · rintro n l g2 hn _ ⟨hp2, rfl⟩
        have hn : n < 17 := hn
        refine ⟨_, _, rfl, rfl, w_tYs (br_t ?_)⟩
        obtain ⟨rn, b1, b2, b3⟩ := h3 n hn
        have hR2 : g2[R]? = some (.lst rows) := hp2.get (hK.2 _ _ hRF h1)
        have hrn : g2[rn]? = some (.lst ((brow n).map U.int)) := hp2.get (hK.2 _ _ (by have := lt_of_get b3; simp; omega) b3)
        have hF2 : g2[F]? = some (.lst fs) := hp2.get f1
        have hr2 : g2[r]? = some (.lst ((frow k).map U.int)) := hp2.get a3
        have x0 : atU rows (0 + (n : Int)) = some (.obj rn) := atU_nat0 b1
        repeat fail
        refine w_lc ?_
        repeat fail
        refine w_lc_pure (fun s => .int ((brow n).getD s 0 * (frow k).getD (n - s) 0)) rfl (by show (0 + (n : Int) + 1).toNat ≤ sizeLine; rw [PySem.sizeLine_eq]; omega) (fun s hs => ⟨_, _, rfl, rfl, ?_⟩) ?_
        · have hs : s < n + 1 := by have : s < (0 + (n : Int) + 1).toNat := hs; omega
          have y0 : atU ((brow n).map U.int) (0 + (s : Int)) = some (.int ((brow n).getD s 0)) := atU_nat0 (get_mapD (by rw [brow_len]; omega))
          have y1 : atU ((frow k).map U.int) (0 + (n : Int) - (0 + (s : Int))) = some (.int ((frow k).getD (n - s) 0)) := by
            rw [show 0 + (n : Int) - (0 + (s : Int)) = ((n - s : Nat) : Int) by omega]
            exact atU_nat (get_mapD (by rw [frow_len]; omega))
          repeat fail
          · exact ⟨rfl, rfl⟩
          · exact guardP (brow_s hn) (frow_s (by omega)) (by omega)
        · rw [show (Wk.rng 0 (0 + (n : Int) + 1).toNat).len = n + 1 by show (0 + (n : Int) + 1).toNat = n + 1; omega]
          repeat fail
          refine o_maxM get_last ?_
          exact ⟨hp2.app, show List.map (fun n => U.int (mx n (frow k))) (List.range n) ++ [U.int (mx n (frow k))] = _ by rw [List.range_succ, List.map_append]; rfl⟩
      · rintro l g2 _ ⟨hp2, rfl⟩
        have hF2 : g2[F]? = some (.lst fs) := hp2.get f1
        repeat fail
        · refine ⟨_, _, _, _, rfl, Pre.set (.app (hp'.trans hp2)) (by have := hp.le; omega), (hK.trans (.pre hp2.app)).trans (.set (by simp)), RowsAt.snoc (by trivial) f2 (fun j hj => ?_) ?_ ?_⟩
          · obtain ⟨r, a, b, c⟩ := f3 j hj
            have c := hp2.get c
            exact ⟨r, a, b, by trivial⟩
          · rw [show (frow (k + 1)).map U.int = List.map (fun n => U.int (mx n (frow k))) (List.range 17) by rw [frow, List.map_map]; rfl]
            exact get_last
          · have := lt_of_get hF2; omega
        all_goals (rw [PySem.sizeLine_eq]; omega)
    · rintro τ g' ⟨o1, o2, o3, o5, rfl, hp', hK, hf⟩
      have hf : RowsAt g' F frow 19 := hf
      obtain ⟨fs, f1, f2, f3⟩ := hf
      repeat fail
      refine ⟨by have := hp.le; simp [refs]; omega, ?_⟩
      obtain ⟨l, rfl⟩ := hp'
      refine q F l ⟨lt_of_get f1, fs, f1, fun i i1 i2 => ?_⟩
      obtain ⟨r, a, b, c⟩ := f3 i (by omega)
      refine ⟨r, _, a, lt_of_get c, c, fun j j1 j2 => ?_⟩
      have := List.all_eq_true.mp (List.all_eq_true.mp frow_arr (i - 3) (List.mem_range.mpr (by omega))) (j - 2) (List.mem_range.mpr (by omega))
      rw [show i - 3 + 3 = i by omega, show j - 2 + 2 = j by omega] at this
      rw [get_mapD (by rw [frow_len]; omega), eq_of_beq this]
end K50

set_option Elab.async false
set_option linter.all false
set_option maxRecDepth 100000
set_option autoImplicit false
namespace K50
open PM PySem
local macro_rules | `(tactic| trivial) => `(tactic| first
  | assumption | exact get_last | (apply get_app; trivial) | (apply sq_lst; trivial) | (apply sq_tup; trivial) | (apply sq_frz; trivial) | (apply la_lst; trivial) | (apply la_frz; trivial) | (apply seq_app; trivial)
  | (apply get_set; trivial) | (apply get_set_ne; (first | assumption | omega | decide | (simp only [List.length_append, List.length_set, List.length_cons, List.length_nil]; omega)); trivial) | (apply isLst_of; trivial))
local macro_rules | `(tactic| fail) => `(tactic| first
  | (with_reducible apply w_seq) | ((with_reducible apply w_var); rfl) | (with_reducible apply w_c) | (with_reducible apply w_bin) | (with_reducible apply w_un) | (with_reducible apply w_nil) | (with_reducible apply w_cons)
  | (with_reducible apply w_N) | (with_reducible apply w_Me) | ((with_reducible apply lst_to); trivial) | (with_reducible apply w_G) | (with_reducible apply w_dct0) | ((with_reducible apply o_dict1); trivial; trivial; rfl) | (with_reducible apply w_E) | (with_reducible apply w_tNo) | (with_reducible apply w_An) | (with_reducible apply w_Orr) | (with_reducible apply w_eAnd) | (with_reducible apply w_eOr) | (with_reducible apply w_eNo) | (with_reducible apply w_eIf) | (with_reducible apply w_chain)
  | (with_reducible apply w_pNo) | (with_reducible apply w_pSo) | (with_reducible apply w_Sl)
  | (with_reducible apply w_tYs) | (with_reducible apply w_nx) | (with_reducible apply w_bk) | (with_reducible apply w_ct) | (with_reducible apply w_ex) | (with_reducible apply w_rt) | (with_reducible apply w_rtN) | (with_reducible apply w_if) | (with_reducible apply w_as) | (with_reducible apply w_par) | (with_reducible apply w_par3) | (with_reducible apply w_sub) | (with_reducible apply w_rz)
  | (with_reducible apply w_try) | (with_reducible apply try_none) | ((with_reducible apply try_skip); rfl) | ((with_reducible apply try_plain); rfl) | ((with_reducible apply try_named); rfl; exact Nat.le_of_ble_eq_true rfl) | ((with_reducible apply w_xat); trivial; rfl)
  | (with_reducible apply w_rg1) | (with_reducible apply w_rg2) | (with_reducible apply w_iseq)
  | (with_reducible apply o_add) | (with_reducible apply o_sub) | (with_reducible apply o_neg) | (with_reducible apply o_lt) | (with_reducible apply o_le) | (with_reducible apply o_gt) | (with_reducible apply o_ge) | (with_reducible apply o_isn) | (with_reducible apply o_isb) | (with_reducible apply o_tru_b) | (with_reducible apply o_tru_i) | (with_reducible apply o_abs) | (with_reducible apply o_int) | (with_reducible apply o_intb) | (with_reducible apply o_max2) | (with_reducible apply o_min2)
  | ((with_reducible apply o_fdivB); (first | decide | omega | assumption | rotate_left)) | ((with_reducible apply o_mod); (first | decide | omega | assumption | rotate_left)) | ((with_reducible apply o_mulB); (first | decide | omega | assumption)) | ((with_reducible apply o_mul); (first | assumption | rotate_left)) | ((with_reducible apply o_pow); (first | decide | omega | assumption | rotate_left))
  | ((with_reducible apply o_eq); rfl) | ((with_reducible apply o_ne); rfl)
  | ((with_reducible apply o_isi); (first | rfl | (apply ty_obj; trivial; rfl)); (first | exact (show _ = true from rfl) | exact (show _ = false from rfl)))
  | ((with_reducible apply o_lenS); (first | assumption | decide +kernel)) | ((with_reducible apply o_slS); (first | assumption | decide +kernel)) | ((with_reducible apply o_len); trivial) | ((with_reducible apply o_lenD); trivial)
  | ((with_reducible apply o_idx); trivial; (first | rfl | assumption | exact atU_nat0 (get_map (by assumption)) | exact atU_nat (get_map (by assumption)) | skip))
  | ((with_reducible apply o_lst); (first | exact Nat.le_of_ble_eq_true rfl | omega | assumption)) | ((with_reducible apply o_tup); (first | exact Nat.le_of_ble_eq_true rfl | omega | assumption))
  | ((with_reducible apply o_append); trivial; (first | assumption | rotate_left)) | ((with_reducible apply o_sl); trivial) | ((with_reducible apply o_list); trivial) | ((with_reducible apply o_divmod); (try first | decide | omega))
  | (with_reducible apply br_t) | (with_reducible apply br_f) | (with_reducible apply br_nt) | (with_reducible apply br_nf) | (with_reducible apply br_d) | (with_reducible apply br_nd)
  | ((with_reducible apply len2); rfl; rfl) | ((with_reducible apply as_to); (first | ((with_reducible apply gT_one); trivial; rfl; rfl) | rfl)) | ((with_reducible apply sub_to); (apply set_at; trivial; rfl)) | (with_reducible apply chain_to)
  | (with_reducible apply ex_int) | ((with_reducible apply ex_rg1); (first | omega | rotate_left)) | ((with_reducible apply ex_rg2); (first | omega | rotate_left)) | (with_reducible apply ex_par) | (with_reducible apply ex_par3) | ((with_reducible apply ex_seq); trivial))

theorem known_ok {g : G} {N mu : Nat} {nm tn ow ot : Int} {a0 a2 a3 a6 a9 a10 a11 a12 a13 : Option U} {D : Ps} (hM : MostAt g N mu)
    (q : ∀ o l, D.nx [a0, some (.obj mu), a2, a3, some (.int nm), some (.int tn), a6, some (.int ow), some (.int ot), o, a10, a11, a12, a13] (g ++ l)) :
    ((sFor (iSeq (eN uLst (aCons (eC (.bl true)) (aCons (eC (.bl false)) (aCons (eC (.bl true)) aNil))))) (gN 9)
  (sSeq (sIf (tNo (tE (eG 5 0 (fun us _ => f__law_right us) (aCons (eVar 1) (aCons (eVar 9) (aCons (eBin uMod (eN uInt (aCons (eBin uAdd (eVar 4) (eVar 5)) aNil)) (eC (.int 2))) (aCons (eVar 7) (aCons (eVar 8) aNil))))) aNil)))
  (sRt (eC (.bl false)))
  sNx)
  (sIf (tNo (tE (eG 5 0 (fun us _ => f__law_right us) (aCons (eVar 1) (aCons (eVar 9) (aCons (eBin uMod (eN uInt (aCons (eBin uAdd (eVar 4) (eVar 5)) aNil)) (eC (.int 2))) (aCons (eVar 8) (aCons (eVar 7) aNil))))) aNil)))
  (sRt (eC (.bl false)))
  sNx))) [a0, some (.obj mu), a2, a3, some (.int nm), some (.int tn), a6, some (.int ow), some (.int ot), a9, a10, a11, a12, a13] g).sat D := by
  refine w_for ?_
  repeat fail
  show (forGo _ _ _ 3 0 _ _).sat _
  have hq : (g ++ [O.lst [.bl true, .bl false, .bl true]])[g.length]? = some (O.lst [.bl true, .bl false, .bl true]) := get_last
  have hok : (Wk.seq g.length false [.bl true, .bl false, .bl true]).ok (g ++ [O.lst [.bl true, .bl false, .bl true]]) = true := by unfold Wk.ok; exact decide_eq_true (sq_lst hq)
  have hM' := hM.pre (g' := g ++ [O.lst [.bl true, .bl false, .bl true]]) ⟨_, rfl⟩
  refine w_for_cons hok rfl rfl ?_
  repeat fail
  refine right_ok hM' (.int _) (.int _) ?_
  repeat fail
  refine right_ok hM' (.int _) (.int _) ?_
  repeat fail
  refine w_for_cons hok rfl rfl ?_
  repeat fail
  refine right_ok hM' (.int _) (.int _) ?_
  repeat fail
  refine right_ok hM' (.int _) (.int _) ?_
  repeat fail
  refine w_for_cons hok rfl rfl ?_
  repeat fail
  refine right_ok hM' (.int _) (.int _) ?_
  repeat fail
  refine right_ok hM' (.int _) (.int _) ?_
  repeat fail
  refine w_for_nil hok ?_
  exact q _ _
/-- what stands while law runs -/
structure Ivn (ns : List Int) (N mu b : Nat) (c : Int) (g : G) : Prop where
  s : g[0]? = some (.frz (ns.map U.int))
  m : MostAt g N mu
  bx : ∃ k, Box g b k ∧ 0 ≤ k ∧ k ≤ c
  l : N ≤ b
theorem Ivn.kp {ns : List Int} {N mu b : Nat} {c c' k : Int} {g g' : G} (h : Ivn ns N mu b c g) (p : Kp [b] g g') (hb : Box g' b k) (h0 : 0 ≤ k) (h1 : k ≤ c') : Ivn ns N mu b c' g' :=
  ⟨p.2 _ _ (by simp; have := h.m.1; have := h.l; omega) h.s, h.m.kp p (by simp; exact h.l), ⟨k, hb, h0, h1⟩, h.l⟩
theorem Ivn.pre {ns : List Int} {N mu b : Nat} {c : Int} {g : G} (h : Ivn ns N mu b c g) (l : List O) : Ivn ns N mu b c (g ++ l) := by
  obtain ⟨k, h1, h2, h3⟩ := h.bx
  exact h.kp (.pre ⟨l, rfl⟩) (h1.kp ⟨l, rfl⟩) h2 h3
theorem Thing.kp {g g' : G} {u : U} {b : Nat} (h : Thing g u) (p : Kp [b] g g') (hn : ∀ n, u = .obj n → n ≠ b) : Thing g' u := by
  have nb : ∀ n, u = .obj n → n ∉ [b] := fun n e => by have := hn n e; simpa using this
  cases h with
  | non => exact .non
  | bl b => exact .bl b
  | int i => exact .int i
  | str s h => exact .str s h
  | lst n xs h hz => exact .lst n xs (p.2 _ _ (nb n rfl) h) hz
  | tup n i h => exact .tup n i (p.2 _ _ (nb n rfl) h)
  | dct n kvs h => exact .dct n kvs (p.2 _ _ (nb n rfl) h)
/-- a drawing -/
theorem draw_ok {ns : List Int} {N mu b : Nat} {c n : Int} {g : G} {Q : U → G → Prop} {X : XP} (h : Ivn ns N mu b c g) (hc : c < 1000000) (hn : 0 < n ∧ n < 1000000) (q : ∀ r g', 0 ≤ r → r < n → Ivn ns N mu b (c + 1) g' → Q (.int r) g') : (f__law_take [.obj b, .int n] g).sat Q X := by
  obtain ⟨k, h1, h2, h3⟩ := h.bx
  refine take_ok h1 ⟨h2, by omega⟩ hn fun r o k' r0 r1 k0 k1 hb => ?_
  exact q r _ r0 r1 (h.kp (.set (by simp)) hb (by omega) (by omega))
theorem odd_draw {ns : List Int} {N mu b : Nat} {c good : Int} {g : G} {Q : U → G → Prop} {X : XP} (h : Ivn ns N mu b c g) (hc : c < 1000000) (q : ∀ u g', Kp [b] g g' → Thing g' u → (∀ n, u = .obj n → n ≠ b) → Ivn ns N mu b (c + 1) g' → Q u g') : (f__law_odd [.obj b, .int good] g).sat Q X := by
  obtain ⟨k, h1, h2, h3⟩ := h.bx
  refine odd_ok h1 ⟨h2, by omega⟩ fun u g' k' p hb k0 k1 ht hne => ?_
  exact q u g' p ht hne (h.kp p hb (by omega) (by omega))
structure Bs (ns : List Int) (N mu : Nat) (g : G) : Prop where
  s : g[0]? = some (.frz (ns.map U.int))
  m : MostAt g N mu
  l : N ≤ g.length
theorem Ivn.bs {ns : List Int} {N mu b : Nat} {c : Int} {g : G} (h : Ivn ns N mu b c g) : Bs ns N mu g := by
  obtain ⟨k, h1, _⟩ := h.bx
  exact ⟨h.s, h.m, by have := h1.lt; have := h.l; omega⟩
set_option maxHeartbeats 0 in
theorem law_ok : ∀ ns : List Int, ns.length ≤ 63 → ∃ g', f_law [.obj 0] [.frz (ns.map U.int)] = .ok (.bl true) g' := by
  intro ns hns
  have main : (f_law [.obj 0] [.frz (ns.map U.int)]).sat (fun u _ => u = .bl true) (fun _ _ _ => False) := by
    unfold f_law
    refine w_gcB (w_fn ?_)
    unfold b_law
    simp only [List.map_cons, List.map_nil, List.length_cons, List.length_nil, Nat.reduceSub, List.replicate_succ, List.replicate_zero, List.cons_append, List.nil_append, List.append_nil, Nat.zero_add, Nat.reduceAdd]
    repeat fail
    refine most_ok fun mu l hM => ?_
    repeat fail
    have hs : ([O.frz (ns.map U.int)] ++ l)[0]? = some (.frz (ns.map U.int)) := rfl
    generalize [O.frz (ns.map U.int)] ++ l = G0 at hM hs ⊢
    refine w_for ?_
    repeat fail
    refine w_forGo (fun i τ g => ∃ o2 o3 o4 o5 o6 o7 o8 o9 o10 o11 o12 o13, τ = [some (.obj 0), some (.obj mu), o2, o3, o4, o5, o6, o7, o8, o9, o10, o11, o12, o13] ∧ Bs ns G0.length mu g) ⟨_, _, _, _, _, _, _, _, _, _, _, _, rfl, ⟨hs, hM, Nat.le_refl _⟩⟩ (fun _ _ _ _ _ => rfl) ?_ ?_
    · rintro i τ g hi ⟨o2, o3, o4, o5, o6, o7, o8, o9, o10, o11, o12, o13, rfl, hB⟩
      have hi : i < 1000 := by
        have hi' : i < (_ : Int).toNat := hi
        split at hi'
        · split at hi' <;> omega
        · omega
      refine ⟨_, _, rfl, rfl, ?_⟩
      repeat fail
      rw [Int.zero_add]
      refine cell_ok hB.s hi fun x => ?_
      repeat fail
      refine box_ok fun o hb => ?_
      have hI : Ivn ns G0.length mu g.length 0 (g ++ [o]) := ⟨get_app hB.s, hB.m.pre ⟨_, rfl⟩, ⟨0, hb, by omega, by omega⟩, hB.l⟩
      generalize g ++ [o] = g1 at hI ⊢
      generalize g.length = b at hI ⊢
      clear hb
      repeat fail
      refine draw_ok hI (by omega) (by omega) fun nm g2 _ _ hI => ?_
      repeat fail
      refine w_for ?_
      repeat fail
      refine w_forGo (fun i τ g => ∃ o2 o5 o6 o7 o8 o9 o10 o11 o12 o13, τ = [some (.obj 0), some (.obj mu), o2, some (.obj b), some (.int nm), o5, o6, o7, o8, o9, o10, o11, o12, o13] ∧ Ivn ns G0.length mu b (1 + 3 * i) g) ⟨_, _, _, _, _, _, _, _, _, _, rfl, by simpa using hI⟩ (fun _ _ _ _ _ => rfl) ?_ ?_
      · rintro i τ g hi ⟨o2, o5, o6, o7, o8, o9, o10, o11, o12, o13, rfl, hI⟩
        have hi : i < 20 := hi
        refine ⟨_, _, rfl, rfl, ?_⟩
        repeat fail
        refine draw_ok hI (by omega) (by omega) fun r1 g1 _ _ hI => ?_
        repeat fail
        refine draw_ok hI (by omega) (by omega) fun r2 g2 _ _ hI => ?_
        repeat fail
        refine draw_ok hI (by omega) (by omega) fun r3 g3 _ _ hI => ?_
        have fin : ∀ (ot : Int) (D : Ps), (∀ τ g, (∃ o2 o5 o6 o7 o8 o9 o10 o11 o12 o13, τ = [some (.obj 0), some (.obj mu), o2, some (.obj b), some (.int nm), o5, o6, o7, o8, o9, o10, o11, o12, o13] ∧ Ivn ns G0.length mu b (1 + 3 * ((i + 1 : Nat) : Int)) g) → D.nx τ g) → ((sFor (iSeq (eN uLst (aCons (eC (.bl true)) (aCons (eC (.bl false)) (aCons (eC (.bl true)) aNil))))) (gN 9)
  (sSeq (sIf (tNo (tE (eG 5 0 (fun us _ => f__law_right us) (aCons (eVar 1) (aCons (eVar 9) (aCons (eBin uMod (eN uInt (aCons (eBin uAdd (eVar 4) (eVar 5)) aNil)) (eC (.int 2))) (aCons (eVar 7) (aCons (eVar 8) aNil))))) aNil)))
  (sRt (eC (.bl false)))
  sNx)
  (sIf (tNo (tE (eG 5 0 (fun us _ => f__law_right us) (aCons (eVar 1) (aCons (eVar 9) (aCons (eBin uMod (eN uInt (aCons (eBin uAdd (eVar 4) (eVar 5)) aNil)) (eC (.int 2))) (aCons (eVar 8) (aCons (eVar 7) aNil))))) aNil)))
  (sRt (eC (.bl false)))
  sNx))) [some (.obj 0), some (.obj mu), o2, some (.obj b), some (.int nm), some (.int (0 + i)), some (.int r1), some (.int (2 + r2)), some (.int ot), o9, o10, o11, o12, o13] g3).sat D := by
          intro ot D hD
          refine known_ok hI.m fun o l => hD _ _ ⟨_, _, _, _, _, _, _, _, _, _, rfl, ?_⟩
          have := hI.pre l
          rw [show 1 + 3 * ((i + 1 : Nat) : Int) = 1 + 3 * (i : Int) + 1 + 1 + 1 by omega]
          exact this
        repeat fail
        · intro _
          repeat fail
          · intro _
            repeat fail
            exact fin _ _ fun _ _ h => h
          · intro _
            repeat fail
            exact fin _ _ fun _ _ h => h
        · intro _
          repeat fail
          · intro _
            repeat fail
            exact fin _ _ fun _ _ h => h
          · intro _
            repeat fail
            exact fin _ _ fun _ _ h => h
      · rintro τ g ⟨o2, o5, o6, o7, o8, o9, o10, o11, o12, o13, rfl, hI⟩
        have hI : Ivn ns G0.length mu b 61 g := hI
        repeat fail
        refine w_for ?_
        repeat fail
        refine w_forGo (fun i τ g => ∃ o2 o5 o6 o7 o8 o9 o10 o11 o12 o13, τ = [some (.obj 0), some (.obj mu), o2, some (.obj b), some (.int nm), o5, o6, o7, o8, o9, o10, o11, o12, o13] ∧ Ivn ns G0.length mu b (61 + 5 * i) g) ⟨_, _, _, _, _, _, _, _, _, _, rfl, by simpa using hI⟩ (fun _ _ _ _ _ => rfl) ?_ ?_
        · rintro i τ g hi ⟨o2, o5, o6, o7, o8, o9, o10, o11, o12, o13, rfl, hI⟩
          have hi : i < 12 := hi
          refine ⟨_, _, rfl, rfl, ?_⟩
          repeat fail
          refine draw_ok hI (by omega) (by omega) fun r1 g1 a1 a2 hI => ?_
          repeat fail
          refine draw_ok hI (by omega) (by omega) fun r2 g2 _ _ hI => ?_
          repeat fail
          refine draw_ok hI (by omega) (by omega) fun r3 g3 _ _ hI => ?_
          repeat fail
          refine odd_draw hI (by omega) fun u g4 _ hu hnu hI => ?_
          repeat fail
          refine odd_draw hI (by omega) fun v g5 kp hv _ hI => ?_
          have hu := hu.kp kp hnu
          have r1c : r1 = 0 ∨ r1 = 1 ∨ r1 = 2 := by omega
          have par : (0 + (i : Int)) % 2 = 0 ∨ (0 + (i : Int)) % 2 = 1 := by omega
          rcases r1c with rfl | rfl | rfl <;> rcases par with hp | hp
          all_goals
            repeat fail
            refine w_for ?_
            repeat fail
            rw [hp]; rfl
            repeat fail
            show (forGo _ _ _ 2 0 _ _).sat _
            refine w_for_cons (by unfold Wk.ok; exact decide_eq_true (by trivial)) rfl rfl ?_
            repeat fail
            refine right_ok (hI.m.pre (by repeat (first | exact Pre.refl | apply Pre.app))) ?_ ?_ ?_
            · first | exact .int _ | exact hu.pre (by repeat (first | exact Pre.refl | apply Pre.app)) | exact hv.pre (by repeat (first | exact Pre.refl | apply Pre.app))
            · first | exact .int _ | exact hu.pre (by repeat (first | exact Pre.refl | apply Pre.app)) | exact hv.pre (by repeat (first | exact Pre.refl | apply Pre.app))
            repeat fail
            refine w_for_cons (by unfold Wk.ok; exact decide_eq_true (by trivial)) rfl rfl ?_
            repeat fail
            refine right_ok (hI.m.pre (by repeat (first | exact Pre.refl | apply Pre.app))) ?_ ?_ ?_
            · first | exact .int _ | exact hu.pre (by repeat (first | exact Pre.refl | apply Pre.app)) | exact hv.pre (by repeat (first | exact Pre.refl | apply Pre.app))
            · first | exact .int _ | exact hu.pre (by repeat (first | exact Pre.refl | apply Pre.app)) | exact hv.pre (by repeat (first | exact Pre.refl | apply Pre.app))
            repeat fail
            refine w_for_nil (by unfold Wk.ok; exact decide_eq_true (by trivial)) ?_
            refine ⟨_, _, _, _, _, _, _, _, _, _, rfl, ?_⟩
            rw [show 61 + 5 * ((i + 1 : Nat) : Int) = 61 + 5 * (i : Int) + 1 + 1 + 1 + 1 + 1 by omega]
            repeat (first | exact hI | apply Ivn.pre)
        · rintro τ g ⟨o2, o5, o6, o7, o8, o9, o10, o11, o12, o13, rfl, hI⟩
          exact ⟨_, _, _, _, _, _, _, _, _, _, _, _, rfl, hI.bs⟩
    · rintro τ g ⟨o2, o3, o4, o5, o6, o7, o8, o9, o10, o11, o12, o13, rfl, hB⟩
      repeat fail
      exact ⟨rfl, fun _ => rfl⟩
  cases e : f_law [.obj 0] [.frz (ns.map U.int)] with
  | ok u g' => rw [e] at main; exact ⟨g', by rw [main.run]⟩
  | exc c d g' => rw [e] at main; exact main.run.elim
  | stuck => rw [e] at main; exact main.run.elim
end K50

set_option Elab.async false
set_option linter.all false
set_option maxRecDepth 100000
set_option autoImplicit false
namespace K50
open PM PySem PySem.Spec PyProof.Rows L2
def top (i : Nat) : Stmt := PySem.Challenge.pw_upforgood_k50_numbers_told_at_once.main.body.getD i (.Pass ⟨0, 0, 0, 0⟩)
def tb (l : List Ent) : Tab := ⟨l, [("LEAST_KINDS", (.int 2)), ("MOST_KINDS", (.int 16))], [("InvalidOwn", 0, [0]), ("InvalidOther", 1, [0]), ("TalkError", 2, [])], ["range", "max", "abs", "int", "len", "sum", "isinstance", "bool", "divmod", "str", "list", "tuple", "dict", "min"], ["given"], subT, 1000⟩
abbrev st__law_most : Stmt := top 24
def N__law_most : List Str := ["rows", "n", "last", "k", "found", "size"]
theorem sc__law_most : FnScope N__law_most [] (defScope st__law_most) := ⟨rfl, rfl, rfl, by decide +kernel, rfl, by decide +kernel, by decide +kernel⟩
theorem tr__law_most : trB (tb []) N__law_most 60 (defScope st__law_most) (defBody st__law_most) = some b__law_most := by kernel_rfl
abbrev st__law_box : Stmt := top 21
def N__law_box : List Str := ["great"]
theorem sc__law_box : FnScope N__law_box ["great"] (defScope st__law_box) := ⟨rfl, rfl, rfl, by decide +kernel, rfl, by decide +kernel, by decide +kernel⟩
theorem tr__law_box : trB (tb []) N__law_box 60 (defScope st__law_box) (defBody st__law_box) = some b__law_box := by kernel_rfl
abbrev st__law_cell : Stmt := top 20
def N__law_cell : List Str := ["script", "k"]
theorem sc__law_cell : FnScope N__law_cell ["script", "k"] (defScope st__law_cell) := ⟨rfl, rfl, rfl, by decide +kernel, rfl, by decide +kernel, by decide +kernel⟩
theorem tr__law_cell : trB (tb []) N__law_cell 60 (defScope st__law_cell) (defBody st__law_cell) = some b__law_cell := by kernel_rfl
abbrev st__law_take : Stmt := top 22
def N__law_take : List Str := ["box", "many", "digit", "mixed"]
theorem sc__law_take : FnScope N__law_take ["box", "many"] (defScope st__law_take) := ⟨rfl, rfl, rfl, by decide +kernel, rfl, by decide +kernel, by decide +kernel⟩
theorem tr__law_take : trB (tb []) N__law_take 60 (defScope st__law_take) (defBody st__law_take) = some b__law_take := by kernel_rfl
abbrev st__law_is_good : Stmt := top 26
def N__law_is_good : List Str := ["thing"]
theorem sc__law_is_good : FnScope N__law_is_good ["thing"] (defScope st__law_is_good) := ⟨rfl, rfl, rfl, by decide +kernel, rfl, by decide +kernel, by decide +kernel⟩
theorem tr__law_is_good : trB (tb []) N__law_is_good 60 (defScope st__law_is_good) (defBody st__law_is_good) = some b__law_is_good := by kernel_rfl
abbrev st_is_whole : Stmt := top 5
def N_is_whole : List Str := ["value"]
theorem sc_is_whole : FnScope N_is_whole ["value"] (defScope st_is_whole) := ⟨rfl, rfl, rfl, by decide +kernel, rfl, by decide +kernel, by decide +kernel⟩
theorem tr_is_whole : trB (tb []) N_is_whole 60 (defScope st_is_whole) (defBody st_is_whole) = some b_is_whole := by kernel_rfl
abbrev st_is_between : Stmt := top 6
def N_is_between : List Str := ["value", "least", "most"]
theorem sc_is_between : FnScope N_is_between ["value", "least", "most"] (defScope st_is_between) := ⟨rfl, rfl, rfl, by decide +kernel, rfl, by decide +kernel, by decide +kernel⟩
theorem tr_is_between : trB (tb [⟨"is_whole", 1, [], fun us _ => f_is_whole us⟩]) N_is_between 60 (defScope st_is_between) (defBody st_is_between) = some b_is_between := by kernel_rfl
abbrev st_check_both : Stmt := top 14
def N_check_both : List Str := ["own", "other", "most"]
theorem sc_check_both : FnScope N_check_both ["own", "other", "most"] (defScope st_check_both) := ⟨rfl, rfl, rfl, by decide +kernel, rfl, by decide +kernel, by decide +kernel⟩
theorem tr_check_both : trB (tb [⟨"is_between", 3, [], fun us _ => f_is_between us⟩]) N_check_both 60 (defScope st_check_both) (defBody st_check_both) = some b_check_both := by kernel_rfl
abbrev st_choose_of : Stmt := top 8
def N_choose_of : List Str := ["number", "many", "found", "index"]
theorem sc_choose_of : FnScope N_choose_of ["number", "many"] (defScope st_choose_of) := ⟨rfl, rfl, rfl, by decide +kernel, rfl, by decide +kernel, by decide +kernel⟩
theorem tr_choose_of : trB (tb []) N_choose_of 60 (defScope st_choose_of) (defBody st_choose_of) = some b_choose_of := by kernel_rfl
abbrev st_arrangements_of : Stmt := top 9
def N_arrangements_of : List Str := ["parts", "found", "total", "part"]
theorem sc_arrangements_of : FnScope N_arrangements_of ["parts"] (defScope st_arrangements_of) := ⟨rfl, rfl, rfl, by decide +kernel, rfl, by decide +kernel, by decide +kernel⟩
theorem tr_arrangements_of : trB (tb [⟨"choose_of", 2, [], fun us _ => f_choose_of us⟩]) N_arrangements_of 60 (defScope st_arrangements_of) (defBody st_arrangements_of) = some b_arrangements_of := by kernel_rfl
abbrev st_even_parts_of : Stmt := top 10
def N_even_parts_of : List Str := ["total", "many", "least", "more"]
theorem sc_even_parts_of : FnScope N_even_parts_of ["total", "many"] (defScope st_even_parts_of) := ⟨rfl, rfl, rfl, by decide +kernel, rfl, by decide +kernel, by decide +kernel⟩
theorem tr_even_parts_of : trB (tb []) N_even_parts_of 60 (defScope st_even_parts_of) (defBody st_even_parts_of) = some b_even_parts_of := by kernel_rfl
abbrev st_most_told : Stmt := top 15
def N_most_told : List Str := ["kinds", "parts"]
theorem sc_most_told : FnScope N_most_told ["kinds", "parts"] (defScope st_most_told) := ⟨rfl, rfl, rfl, by decide +kernel, rfl, by decide +kernel, by decide +kernel⟩
theorem tr_most_told : trB (tb [⟨"arrangements_of", 1, [], fun us _ => f_arrangements_of us⟩, ⟨"even_parts_of", 2, [], fun us _ => f_even_parts_of us⟩]) N_most_told 60 (defScope st_most_told) (defBody st_most_told) = some b_most_told := by kernel_rfl
abbrev st_both_of : Stmt := top 16
def N_both_of : List Str := ["own", "other", "known", "parts"]
theorem sc_both_of : FnScope N_both_of ["own", "other", "known"] (defScope st_both_of) := ⟨rfl, rfl, rfl, by decide +kernel, rfl, by decide +kernel, by decide +kernel⟩
theorem tr_both_of : trB (tb [⟨"most_told", 2, [], fun us _ => f_most_told us⟩]) N_both_of 60 (defScope st_both_of) (defBody st_both_of) = some b_both_of := by kernel_rfl
abbrev st_both_known : Stmt := top 18
def N_both_known : List Str := ["own", "other"]
theorem sc_both_known : FnScope N_both_known ["own", "other"] (defScope st_both_known) := ⟨rfl, rfl, rfl, by decide +kernel, rfl, by decide +kernel, by decide +kernel⟩
theorem tr_both_known : trB (tb [⟨"check_both", 3, [], fun us _ => f_check_both us⟩, ⟨"both_of", 3, [], fun us _ => f_both_of us⟩]) N_both_known 60 (defScope st_both_known) (defBody st_both_known) = some b_both_known := by kernel_rfl
abbrev st_both : Stmt := top 17
def N_both : List Str := ["own", "other"]
theorem sc_both : FnScope N_both ["own", "other"] (defScope st_both) := ⟨rfl, rfl, rfl, by decide +kernel, rfl, by decide +kernel, by decide +kernel⟩
theorem tr_both : trB (tb [⟨"check_both", 3, [], fun us _ => f_check_both us⟩, ⟨"both_of", 3, [], fun us _ => f_both_of us⟩]) N_both 60 (defScope st_both) (defBody st_both) = some b_both := by kernel_rfl
abbrev st__law_told : Stmt := top 25
def N__law_told : List Str := ["known", "named", "own", "other", "error"]
theorem sc__law_told : FnScope N__law_told ["known", "named", "own", "other"] (defScope st__law_told) := ⟨rfl, rfl, rfl, by decide +kernel, rfl, by decide +kernel, by decide +kernel⟩
theorem tr__law_told : trB (tb [⟨"both_known", 2, [], fun us _ => f_both_known us⟩, ⟨"both_known", 0, ["other", "own"], fun us ys => f_both_known (pick .non [1, 0] (us ++ ys))⟩, ⟨"both", 2, [], fun us _ => f_both us⟩, ⟨"both", 0, ["other", "own"], fun us ys => f_both (pick .non [1, 0] (us ++ ys))⟩]) N__law_told 60 (defScope st__law_told) (defBody st__law_told) = some b__law_told := by kernel_rfl
abbrev st__law_same : Stmt := top 23
def N__law_same : List Str := ["told", "due", "k"]
theorem sc__law_same : FnScope N__law_same ["told", "due"] (defScope st__law_same) := ⟨rfl, rfl, rfl, by decide +kernel, rfl, by decide +kernel, by decide +kernel⟩
theorem tr__law_same (sem : List U → List U → M U) : trB (tb [⟨"_law_same", 2, [], sem⟩]) N__law_same 60 (defScope st__law_same) (defBody st__law_same) = some (b__law_same sem) := by kernel_rfl
abbrev st__law_right : Stmt := top 27
def N__law_right : List Str := ["most", "known", "named", "own", "other", "more", "due", "passed", "at", "told", "one"]
theorem sc__law_right : FnScope N__law_right ["most", "known", "named", "own", "other"] (defScope st__law_right) := ⟨rfl, rfl, rfl, by decide +kernel, rfl, by decide +kernel, by decide +kernel⟩
theorem tr__law_right : trB (tb [⟨"_law_is_good", 1, [], fun us _ => f__law_is_good us⟩, ⟨"_law_told", 4, [], fun us _ => f__law_told us⟩, ⟨"_law_same", 2, [], fun us _ => (f__law_same 4) us⟩]) N__law_right 60 (defScope st__law_right) (defBody st__law_right) = some b__law_right := by kernel_rfl
abbrev st__law_odd : Stmt := top 28
def N__law_odd : List Str := ["box", "good", "menu"]
theorem sc__law_odd : FnScope N__law_odd ["box", "good"] (defScope st__law_odd) := ⟨rfl, rfl, rfl, by decide +kernel, rfl, by decide +kernel, by decide +kernel⟩
theorem tr__law_odd : trB (tb [⟨"_law_take", 2, [], fun us _ => f__law_take us⟩]) N__law_odd 60 (defScope st__law_odd) (defBody st__law_odd) = some b__law_odd := by kernel_rfl
abbrev st_law : Stmt := top 29
def N_law : List Str := ["script", "most", "k", "box", "named", "turn", "way", "own", "other", "known", "odd", "second", "pairs", "one"]
theorem sc_law : FnScope N_law ["script"] (defScope st_law) := ⟨rfl, rfl, rfl, by decide +kernel, rfl, by decide +kernel, by decide +kernel⟩
theorem tr_law : trB (tb [⟨"_law_most", 0, [], fun us _ => f__law_most us⟩, ⟨"_law_box", 1, [], fun us _ => f__law_box us⟩, ⟨"_law_cell", 2, [], fun us _ => f__law_cell us⟩, ⟨"_law_take", 2, [], fun us _ => f__law_take us⟩, ⟨"_law_right", 5, [], fun us _ => f__law_right us⟩, ⟨"_law_odd", 2, [], fun us _ => f__law_odd us⟩]) N_law 60 (defScope st_law) (defBody st_law) = some b_law := by kernel_rfl
abbrev in_InvalidOwn : Stmt := inClass (top 2) 0
theorem sci_InvalidOwn : FnScope ["self", "given"] ["self", "given"] (defScope in_InvalidOwn) := ⟨rfl, rfl, rfl, by decide +kernel, rfl, by decide +kernel, by decide +kernel⟩
abbrev in_InvalidOther : Stmt := inClass (top 3) 0
theorem sci_InvalidOther : FnScope ["self", "given"] ["self", "given"] (defScope in_InvalidOther) := ⟨rfl, rfl, rfl, by decide +kernel, rfl, by decide +kernel, by decide +kernel⟩
set_option maxHeartbeats 0 in
theorem all_mk {P : Program} {w : World} {K : PySem.W.Frag} {h : Heap} {mg : Str → Option Value} {fa C0 I0 C1 I1 C2 F0 F1 F2 F3 F4 F5 F6 F7 F8 F9 F10 F11 F12 F13 F14 F15 F16 F17 F18 F19 : Addr} (X : K.In h) (G : h.Ns mainGlobals mg) (hfa : mg "law" = some (.ref fa))
    {nm0 q0 : Str} {Nn0 : Addr} {bs0 : List Value} {bm0 : List Value} {sn0 : List Str} {sub0 : List Value} {ab0 : Bool} {col0 : Option Bool} {dd0 : Option Addr} {m00 m10 m20 m30 m50 : Option Value}
    {od_i0 an_i0 : Option Addr} {sl_i0 : Array (Option Value)} {oc_i0 kV_i0 dc_i0 pm_i0 cd_i0 ct_i0 : Value}
    {nm1 q1 : Str} {Nn1 : Addr} {bs1 : List Value} {bm1 : List Value} {sn1 : List Str} {sub1 : List Value} {ab1 : Bool} {col1 : Option Bool} {dd1 : Option Addr} {m01 m11 m21 m31 m51 : Option Value}
    {od_i1 an_i1 : Option Addr} {sl_i1 : Array (Option Value)} {oc_i1 kV_i1 dc_i1 pm_i1 cd_i1 ct_i1 : Value}
    {vc0 : Value}
    {vc1 : Value}
    {od0 an0 : Option Addr} {sl0 : Array (Option Value)} {oc0 kV0 dc0 pm0 cd0 ct0 : Value}
    {od1 an1 : Option Addr} {sl1 : Array (Option Value)} {oc1 kV1 dc1 pm1 cd1 ct1 : Value}
    {od2 an2 : Option Addr} {sl2 : Array (Option Value)} {oc2 kV2 dc2 pm2 cd2 ct2 : Value}
    {od3 an3 : Option Addr} {sl3 : Array (Option Value)} {oc3 kV3 dc3 pm3 cd3 ct3 : Value}
    {od4 an4 : Option Addr} {sl4 : Array (Option Value)} {oc4 kV4 dc4 pm4 cd4 ct4 : Value}
    {od5 an5 : Option Addr} {sl5 : Array (Option Value)} {oc5 kV5 dc5 pm5 cd5 ct5 : Value}
    {od6 an6 : Option Addr} {sl6 : Array (Option Value)} {oc6 kV6 dc6 pm6 cd6 ct6 : Value}
    {od7 an7 : Option Addr} {sl7 : Array (Option Value)} {oc7 kV7 dc7 pm7 cd7 ct7 : Value}
    {od8 an8 : Option Addr} {sl8 : Array (Option Value)} {oc8 kV8 dc8 pm8 cd8 ct8 : Value}
    {od9 an9 : Option Addr} {sl9 : Array (Option Value)} {oc9 kV9 dc9 pm9 cd9 ct9 : Value}
    {od10 an10 : Option Addr} {sl10 : Array (Option Value)} {oc10 kV10 dc10 pm10 cd10 ct10 : Value}
    {od11 an11 : Option Addr} {sl11 : Array (Option Value)} {oc11 kV11 dc11 pm11 cd11 ct11 : Value}
    {od12 an12 : Option Addr} {sl12 : Array (Option Value)} {oc12 kV12 dc12 pm12 cd12 ct12 : Value}
    {od13 an13 : Option Addr} {sl13 : Array (Option Value)} {oc13 kV13 dc13 pm13 cd13 ct13 : Value}
    {od14 an14 : Option Addr} {sl14 : Array (Option Value)} {oc14 kV14 dc14 pm14 cd14 ct14 : Value}
    {od15 an15 : Option Addr} {sl15 : Array (Option Value)} {oc15 kV15 dc15 pm15 cd15 ct15 : Value}
    {od16 an16 : Option Addr} {sl16 : Array (Option Value)} {oc16 kV16 dc16 pm16 cd16 ct16 : Value}
    {od17 an17 : Option Addr} {sl17 : Array (Option Value)} {oc17 kV17 dc17 pm17 cd17 ct17 : Value}
    {od18 an18 : Option Addr} {sl18 : Array (Option Value)} {oc18 kV18 dc18 pm18 cd18 ct18 : Value}
    {od19 an19 : Option Addr} {sl19 : Array (Option Value)} {oc19 kV19 dc19 pm19 cd19 ct19 : Value}
    (aC0 : PySem.W.nsIn K mainGlobals "InvalidOwn" = some (some (.ref C0)))
    (ga0 : PySem.W.findIn K (.ref C0) "__getattribute__" = some (some (.builtin "BaseException.__getattribute__")))
    (gg0 : PySem.W.findIn K (.ref C0) "__getattr__" = some none)
    (eC0 : PySem.W.subIn K (.ref C0) (.type "BaseException") = some true)
    (tC0 : PySem.W.typeIn K (.ref C0) = some (.type "type"))
    (hC0 : PySem.W.hasDictIn K C0 = true)
    (iC0 : PySem.W.isClsIn K C0 = true)
    (nf0_0 : PySem.W.findIn K (.ref C0) "given" = some none)
    (xL0 : K.lookup C0 = some (excClassObj nm0 q0 C0 Nn0 bs0 bm0 true sn0 sub0 ab0 col0 dd0 m00 m10 m20 m30 m50 "ValueError.__new__"))
    (rb0 : PySem.HandSPX.refsVE bm0 = true)
    (sa0 : PySem.W.findIn K (.ref C0) "__setattr__" = some (some (.builtin "object.__setattr__")))
    (kC0 : PySem.W.keepIn K (.ref C0) = true)
    (aI0 : PySem.W.findIn K (.ref C0) "__init__" = some (some (.ref I0)))
    (tI0 : PySem.W.typeIn K (.ref I0) = some (.type "function"))
    (lI0 : K.lookup I0 = some ⟨oc_i0, od_i0, .func (PySem.W.fnOf "__init__" "InvalidOwn.__init__" (defArgs in_InvalidOwn) (defBody in_InvalidOwn) (defScope in_InvalidOwn) .none kV_i0 dc_i0 pm_i0 an_i0 cd_i0 ct_i0), sl_i0⟩)
    (cI0 : PySem.W.codeIn K cd_i0 "InvalidOwn.__init__" = true)
    (kI0 : PySem.W.keepIn K (.ref I0) = true)
    (aC1 : PySem.W.nsIn K mainGlobals "InvalidOther" = some (some (.ref C1)))
    (ga1 : PySem.W.findIn K (.ref C1) "__getattribute__" = some (some (.builtin "BaseException.__getattribute__")))
    (gg1 : PySem.W.findIn K (.ref C1) "__getattr__" = some none)
    (eC1 : PySem.W.subIn K (.ref C1) (.type "BaseException") = some true)
    (tC1 : PySem.W.typeIn K (.ref C1) = some (.type "type"))
    (hC1 : PySem.W.hasDictIn K C1 = true)
    (iC1 : PySem.W.isClsIn K C1 = true)
    (nf1_0 : PySem.W.findIn K (.ref C1) "given" = some none)
    (xL1 : K.lookup C1 = some (excClassObj nm1 q1 C1 Nn1 bs1 bm1 true sn1 sub1 ab1 col1 dd1 m01 m11 m21 m31 m51 "ValueError.__new__"))
    (rb1 : PySem.HandSPX.refsVE bm1 = true)
    (sa1 : PySem.W.findIn K (.ref C1) "__setattr__" = some (some (.builtin "object.__setattr__")))
    (kC1 : PySem.W.keepIn K (.ref C1) = true)
    (aI1 : PySem.W.findIn K (.ref C1) "__init__" = some (some (.ref I1)))
    (tI1 : PySem.W.typeIn K (.ref I1) = some (.type "function"))
    (lI1 : K.lookup I1 = some ⟨oc_i1, od_i1, .func (PySem.W.fnOf "__init__" "InvalidOther.__init__" (defArgs in_InvalidOther) (defBody in_InvalidOther) (defScope in_InvalidOther) .none kV_i1 dc_i1 pm_i1 an_i1 cd_i1 ct_i1), sl_i1⟩)
    (cI1 : PySem.W.codeIn K cd_i1 "InvalidOther.__init__" = true)
    (kI1 : PySem.W.keepIn K (.ref I1) = true)
    (aC2 : PySem.W.nsIn K mainGlobals "TalkError" = some (some (.ref C2)))
    (ga2 : PySem.W.findIn K (.ref C2) "__getattribute__" = some (some (.builtin "BaseException.__getattribute__")))
    (gg2 : PySem.W.findIn K (.ref C2) "__getattr__" = some none)
    (eC2 : PySem.W.subIn K (.ref C2) (.type "BaseException") = some true)
    (tC2 : PySem.W.typeIn K (.ref C2) = some (.type "type"))
    (hC2 : PySem.W.hasDictIn K C2 = true)
    (iC2 : PySem.W.isClsIn K C2 = true)
    (nf2_0 : PySem.W.findIn K (.ref C2) "given" = some none)
    (sb0_0 : PySem.W.subIn K (.ref C0) (.ref C0) = some true)
    (sb0_1 : PySem.W.subIn K (.ref C0) (.ref C1) = some false)
    (sb0_2 : PySem.W.subIn K (.ref C0) (.ref C2) = some true)
    (sb1_0 : PySem.W.subIn K (.ref C1) (.ref C0) = some false)
    (sb1_1 : PySem.W.subIn K (.ref C1) (.ref C1) = some true)
    (sb1_2 : PySem.W.subIn K (.ref C1) (.ref C2) = some true)
    (sb2_0 : PySem.W.subIn K (.ref C2) (.ref C0) = some false)
    (sb2_1 : PySem.W.subIn K (.ref C2) (.ref C1) = some false)
    (sb2_2 : PySem.W.subIn K (.ref C2) (.ref C2) = some true)
    (z0 : PySem.W.nsIn K mainGlobals "range" = some none)
    (z1 : PySem.W.nsIn K mainGlobals "max" = some none)
    (z2 : PySem.W.nsIn K mainGlobals "abs" = some none)
    (z3 : PySem.W.nsIn K mainGlobals "int" = some none)
    (z4 : PySem.W.nsIn K mainGlobals "len" = some none)
    (z5 : PySem.W.nsIn K mainGlobals "sum" = some none)
    (z6 : PySem.W.nsIn K mainGlobals "isinstance" = some none)
    (z7 : PySem.W.nsIn K mainGlobals "bool" = some none)
    (z8 : PySem.W.nsIn K mainGlobals "divmod" = some none)
    (z9 : PySem.W.nsIn K mainGlobals "str" = some none)
    (z10 : PySem.W.nsIn K mainGlobals "list" = some none)
    (z11 : PySem.W.nsIn K mainGlobals "tuple" = some none)
    (z12 : PySem.W.nsIn K mainGlobals "dict" = some none)
    (z13 : PySem.W.nsIn K mainGlobals "min" = some none)
    (con0 : PySem.W.nsIn K mainGlobals "LEAST_KINDS" = some (some vc0))
    (conr0 : RelV (.int 2) vc0)
    (con1 : PySem.W.nsIn K mainGlobals "MOST_KINDS" = some (some vc1))
    (conr1 : RelV (.int 16) vc1)
    (aF0 : PySem.W.nsIn K mainGlobals "_law_most" = some (some (.ref F0)))
    (lF0 : K.lookup F0 = some ⟨oc0, od0, .func (PySem.W.fnOf "_law_most" "_law_most" (defArgs st__law_most) (defBody st__law_most) (defScope st__law_most) .none kV0 dc0 pm0 an0 cd0 ct0), sl0⟩)
    (cF0 : PySem.W.codeIn K cd0 "_law_most" = true)
    (kF0 : PySem.W.keepIn K (.ref F0) = true)
    (aF1 : PySem.W.nsIn K mainGlobals "_law_box" = some (some (.ref F1)))
    (lF1 : K.lookup F1 = some ⟨oc1, od1, .func (PySem.W.fnOf "_law_box" "_law_box" (defArgs st__law_box) (defBody st__law_box) (defScope st__law_box) .none kV1 dc1 pm1 an1 cd1 ct1), sl1⟩)
    (cF1 : PySem.W.codeIn K cd1 "_law_box" = true)
    (kF1 : PySem.W.keepIn K (.ref F1) = true)
    (aF2 : PySem.W.nsIn K mainGlobals "_law_cell" = some (some (.ref F2)))
    (lF2 : K.lookup F2 = some ⟨oc2, od2, .func (PySem.W.fnOf "_law_cell" "_law_cell" (defArgs st__law_cell) (defBody st__law_cell) (defScope st__law_cell) .none kV2 dc2 pm2 an2 cd2 ct2), sl2⟩)
    (cF2 : PySem.W.codeIn K cd2 "_law_cell" = true)
    (kF2 : PySem.W.keepIn K (.ref F2) = true)
    (aF3 : PySem.W.nsIn K mainGlobals "_law_take" = some (some (.ref F3)))
    (lF3 : K.lookup F3 = some ⟨oc3, od3, .func (PySem.W.fnOf "_law_take" "_law_take" (defArgs st__law_take) (defBody st__law_take) (defScope st__law_take) .none kV3 dc3 pm3 an3 cd3 ct3), sl3⟩)
    (cF3 : PySem.W.codeIn K cd3 "_law_take" = true)
    (kF3 : PySem.W.keepIn K (.ref F3) = true)
    (aF4 : PySem.W.nsIn K mainGlobals "_law_is_good" = some (some (.ref F4)))
    (lF4 : K.lookup F4 = some ⟨oc4, od4, .func (PySem.W.fnOf "_law_is_good" "_law_is_good" (defArgs st__law_is_good) (defBody st__law_is_good) (defScope st__law_is_good) .none kV4 dc4 pm4 an4 cd4 ct4), sl4⟩)
    (cF4 : PySem.W.codeIn K cd4 "_law_is_good" = true)
    (kF4 : PySem.W.keepIn K (.ref F4) = true)
    (aF5 : PySem.W.nsIn K mainGlobals "is_whole" = some (some (.ref F5)))
    (lF5 : K.lookup F5 = some ⟨oc5, od5, .func (PySem.W.fnOf "is_whole" "is_whole" (defArgs st_is_whole) (defBody st_is_whole) (defScope st_is_whole) .none kV5 dc5 pm5 an5 cd5 ct5), sl5⟩)
    (cF5 : PySem.W.codeIn K cd5 "is_whole" = true)
    (kF5 : PySem.W.keepIn K (.ref F5) = true)
    (aF6 : PySem.W.nsIn K mainGlobals "is_between" = some (some (.ref F6)))
    (lF6 : K.lookup F6 = some ⟨oc6, od6, .func (PySem.W.fnOf "is_between" "is_between" (defArgs st_is_between) (defBody st_is_between) (defScope st_is_between) .none kV6 dc6 pm6 an6 cd6 ct6), sl6⟩)
    (cF6 : PySem.W.codeIn K cd6 "is_between" = true)
    (kF6 : PySem.W.keepIn K (.ref F6) = true)
    (aF7 : PySem.W.nsIn K mainGlobals "check_both" = some (some (.ref F7)))
    (lF7 : K.lookup F7 = some ⟨oc7, od7, .func (PySem.W.fnOf "check_both" "check_both" (defArgs st_check_both) (defBody st_check_both) (defScope st_check_both) .none kV7 dc7 pm7 an7 cd7 ct7), sl7⟩)
    (cF7 : PySem.W.codeIn K cd7 "check_both" = true)
    (kF7 : PySem.W.keepIn K (.ref F7) = true)
    (aF8 : PySem.W.nsIn K mainGlobals "choose_of" = some (some (.ref F8)))
    (lF8 : K.lookup F8 = some ⟨oc8, od8, .func (PySem.W.fnOf "choose_of" "choose_of" (defArgs st_choose_of) (defBody st_choose_of) (defScope st_choose_of) .none kV8 dc8 pm8 an8 cd8 ct8), sl8⟩)
    (cF8 : PySem.W.codeIn K cd8 "choose_of" = true)
    (kF8 : PySem.W.keepIn K (.ref F8) = true)
    (aF9 : PySem.W.nsIn K mainGlobals "arrangements_of" = some (some (.ref F9)))
    (lF9 : K.lookup F9 = some ⟨oc9, od9, .func (PySem.W.fnOf "arrangements_of" "arrangements_of" (defArgs st_arrangements_of) (defBody st_arrangements_of) (defScope st_arrangements_of) .none kV9 dc9 pm9 an9 cd9 ct9), sl9⟩)
    (cF9 : PySem.W.codeIn K cd9 "arrangements_of" = true)
    (kF9 : PySem.W.keepIn K (.ref F9) = true)
    (aF10 : PySem.W.nsIn K mainGlobals "even_parts_of" = some (some (.ref F10)))
    (lF10 : K.lookup F10 = some ⟨oc10, od10, .func (PySem.W.fnOf "even_parts_of" "even_parts_of" (defArgs st_even_parts_of) (defBody st_even_parts_of) (defScope st_even_parts_of) .none kV10 dc10 pm10 an10 cd10 ct10), sl10⟩)
    (cF10 : PySem.W.codeIn K cd10 "even_parts_of" = true)
    (kF10 : PySem.W.keepIn K (.ref F10) = true)
    (aF11 : PySem.W.nsIn K mainGlobals "most_told" = some (some (.ref F11)))
    (lF11 : K.lookup F11 = some ⟨oc11, od11, .func (PySem.W.fnOf "most_told" "most_told" (defArgs st_most_told) (defBody st_most_told) (defScope st_most_told) .none kV11 dc11 pm11 an11 cd11 ct11), sl11⟩)
    (cF11 : PySem.W.codeIn K cd11 "most_told" = true)
    (kF11 : PySem.W.keepIn K (.ref F11) = true)
    (aF12 : PySem.W.nsIn K mainGlobals "both_of" = some (some (.ref F12)))
    (lF12 : K.lookup F12 = some ⟨oc12, od12, .func (PySem.W.fnOf "both_of" "both_of" (defArgs st_both_of) (defBody st_both_of) (defScope st_both_of) .none kV12 dc12 pm12 an12 cd12 ct12), sl12⟩)
    (cF12 : PySem.W.codeIn K cd12 "both_of" = true)
    (kF12 : PySem.W.keepIn K (.ref F12) = true)
    (aF13 : PySem.W.nsIn K mainGlobals "both_known" = some (some (.ref F13)))
    (lF13 : K.lookup F13 = some ⟨oc13, od13, .func (PySem.W.fnOf "both_known" "both_known" (defArgs st_both_known) (defBody st_both_known) (defScope st_both_known) .none kV13 dc13 pm13 an13 cd13 ct13), sl13⟩)
    (cF13 : PySem.W.codeIn K cd13 "both_known" = true)
    (kF13 : PySem.W.keepIn K (.ref F13) = true)
    (aF14 : PySem.W.nsIn K mainGlobals "both" = some (some (.ref F14)))
    (lF14 : K.lookup F14 = some ⟨oc14, od14, .func (PySem.W.fnOf "both" "both" (defArgs st_both) (defBody st_both) (defScope st_both) .none kV14 dc14 pm14 an14 cd14 ct14), sl14⟩)
    (cF14 : PySem.W.codeIn K cd14 "both" = true)
    (kF14 : PySem.W.keepIn K (.ref F14) = true)
    (aF15 : PySem.W.nsIn K mainGlobals "_law_told" = some (some (.ref F15)))
    (lF15 : K.lookup F15 = some ⟨oc15, od15, .func (PySem.W.fnOf "_law_told" "_law_told" (defArgs st__law_told) (defBody st__law_told) (defScope st__law_told) .none kV15 dc15 pm15 an15 cd15 ct15), sl15⟩)
    (cF15 : PySem.W.codeIn K cd15 "_law_told" = true)
    (kF15 : PySem.W.keepIn K (.ref F15) = true)
    (aF16 : PySem.W.nsIn K mainGlobals "_law_same" = some (some (.ref F16)))
    (lF16 : K.lookup F16 = some ⟨oc16, od16, .func (PySem.W.fnOf "_law_same" "_law_same" (defArgs st__law_same) (defBody st__law_same) (defScope st__law_same) .none kV16 dc16 pm16 an16 cd16 ct16), sl16⟩)
    (cF16 : PySem.W.codeIn K cd16 "_law_same" = true)
    (kF16 : PySem.W.keepIn K (.ref F16) = true)
    (aF17 : PySem.W.nsIn K mainGlobals "_law_right" = some (some (.ref F17)))
    (lF17 : K.lookup F17 = some ⟨oc17, od17, .func (PySem.W.fnOf "_law_right" "_law_right" (defArgs st__law_right) (defBody st__law_right) (defScope st__law_right) .none kV17 dc17 pm17 an17 cd17 ct17), sl17⟩)
    (cF17 : PySem.W.codeIn K cd17 "_law_right" = true)
    (kF17 : PySem.W.keepIn K (.ref F17) = true)
    (aF18 : PySem.W.nsIn K mainGlobals "_law_odd" = some (some (.ref F18)))
    (lF18 : K.lookup F18 = some ⟨oc18, od18, .func (PySem.W.fnOf "_law_odd" "_law_odd" (defArgs st__law_odd) (defBody st__law_odd) (defScope st__law_odd) .none kV18 dc18 pm18 an18 cd18 ct18), sl18⟩)
    (cF18 : PySem.W.codeIn K cd18 "_law_odd" = true)
    (kF18 : PySem.W.keepIn K (.ref F18) = true)
    (aF19 : PySem.W.nsIn K mainGlobals "law" = some (some (.ref F19)))
    (lF19 : K.lookup F19 = some ⟨oc19, od19, .func (PySem.W.fnOf "law" "law" (defArgs st_law) (defBody st_law) (defScope st_law) .none kV19 dc19 pm19 an19 cd19 ct19), sl19⟩)
    (cF19 : PySem.W.codeIn K cd19 "law" = true)
    (kF19 : PySem.W.keepIn K (.ref F19) = true) :
    ∃ (C : Names) (fd : FuncData), (∀ (s : Shared) (v : Value), BindsTo s fd ⟨[v], []⟩ [("script", v)]) ∧ ∀ base : Heap, K.In base → base.Ns mainGlobals mg → FnOk P w K mg base (L2.CX P w) 10 fa fd ["script"] (rdF C 1 f_law) := by
  have e := hfa.symm.trans (PySem.W.mg_of X G aF19)
  have e2 : F19 = fa := by cases e; rfl
  subst e2
  have G0 := fun_mk (st := st__law_most) lF0 cF0 kF0
  have B0 := G0.binds (ps := []) fun _ _ _ _ _ _ us hl => match us, hl with | [], _ => rfl
  have G1 := fun_mk (st := st__law_box) lF1 cF1 kF1
  have B1 := G1.binds (ps := ["great"]) fun _ _ _ _ _ _ us hl => match us, hl with | [_], _ => rfl
  have G2 := fun_mk (st := st__law_cell) lF2 cF2 kF2
  have B2 := G2.binds (ps := ["script", "k"]) fun _ _ _ _ _ _ us hl => match us, hl with | [_, _], _ => rfl
  have G3 := fun_mk (st := st__law_take) lF3 cF3 kF3
  have B3 := G3.binds (ps := ["box", "many"]) fun _ _ _ _ _ _ us hl => match us, hl with | [_, _], _ => rfl
  have G4 := fun_mk (st := st__law_is_good) lF4 cF4 kF4
  have B4 := G4.binds (ps := ["thing"]) fun _ _ _ _ _ _ us hl => match us, hl with | [_], _ => rfl
  have G5 := fun_mk (st := st_is_whole) lF5 cF5 kF5
  have B5 := G5.binds (ps := ["value"]) fun _ _ _ _ _ _ us hl => match us, hl with | [_], _ => rfl
  have G6 := fun_mk (st := st_is_between) lF6 cF6 kF6
  have B6 := G6.binds (ps := ["value", "least", "most"]) fun _ _ _ _ _ _ us hl => match us, hl with | [_, _, _], _ => rfl
  have G7 := fun_mk (st := st_check_both) lF7 cF7 kF7
  have B7 := G7.binds (ps := ["own", "other", "most"]) fun _ _ _ _ _ _ us hl => match us, hl with | [_, _, _], _ => rfl
  have G8 := fun_mk (st := st_choose_of) lF8 cF8 kF8
  have B8 := G8.binds (ps := ["number", "many"]) fun _ _ _ _ _ _ us hl => match us, hl with | [_, _], _ => rfl
  have G9 := fun_mk (st := st_arrangements_of) lF9 cF9 kF9
  have B9 := G9.binds (ps := ["parts"]) fun _ _ _ _ _ _ us hl => match us, hl with | [_], _ => rfl
  have G10 := fun_mk (st := st_even_parts_of) lF10 cF10 kF10
  have B10 := G10.binds (ps := ["total", "many"]) fun _ _ _ _ _ _ us hl => match us, hl with | [_, _], _ => rfl
  have G11 := fun_mk (st := st_most_told) lF11 cF11 kF11
  have B11 := G11.binds (ps := ["kinds", "parts"]) fun _ _ _ _ _ _ us hl => match us, hl with | [_, _], _ => rfl
  have G12 := fun_mk (st := st_both_of) lF12 cF12 kF12
  have B12 := G12.binds (ps := ["own", "other", "known"]) fun _ _ _ _ _ _ us hl => match us, hl with | [_, _, _], _ => rfl
  have G13 := fun_mk (st := st_both_known) lF13 cF13 kF13
  have B13 := G13.binds (ps := ["own", "other"]) fun _ _ _ _ _ _ us hl => match us, hl with | [_, _], _ => rfl
  have G14 := fun_mk (st := st_both) lF14 cF14 kF14
  have B14 := G14.binds (ps := ["own", "other"]) fun _ _ _ _ _ _ us hl => match us, hl with | [_, _], _ => rfl
  have G15 := fun_mk (st := st__law_told) lF15 cF15 kF15
  have B15 := G15.binds (ps := ["known", "named", "own", "other"]) fun _ _ _ _ _ _ us hl => match us, hl with | [_, _, _, _], _ => rfl
  have G16 := fun_mk (st := st__law_same) lF16 cF16 kF16
  have B16 := G16.binds (ps := ["told", "due"]) fun _ _ _ _ _ _ us hl => match us, hl with | [_, _], _ => rfl
  have G17 := fun_mk (st := st__law_right) lF17 cF17 kF17
  have B17 := G17.binds (ps := ["most", "known", "named", "own", "other"]) fun _ _ _ _ _ _ us hl => match us, hl with | [_, _, _, _, _], _ => rfl
  have G18 := fun_mk (st := st__law_odd) lF18 cF18 kF18
  have B18 := G18.binds (ps := ["box", "good"]) fun _ _ _ _ _ _ us hl => match us, hl with | [_, _], _ => rfl
  have G19 := fun_mk (st := st_law) lF19 cF19 kF19
  have B19 := G19.binds (ps := ["script"]) fun _ _ _ _ _ _ us hl => match us, hl with | [_], _ => rfl
  refine ⟨⟨cadOf C0 [C0, C1, C2], fldOf ["given"]⟩, PySem.W.fnOf "law" "law" (defArgs st_law) (defBody st_law) (defScope st_law) .none kV19 dc19 pm19 an19 cd19 ct19, fun s v => .of_eq rfl, fun base _ _ => ?_⟩
  have TB : Tab0 (tb []) P w K mg base ⟨cadOf C0 [C0, C1, C2], fldOf ["given"]⟩ := by
    refine ⟨fun x u h => ?_, fun x h => ?_, fun x p h => ?_, fun f i h => fldOf_ix h, fldOf_inj (by decide +kernel) (by decide +kernel), fun c c' => ?_, fun c => ?_, fun c f i h => ?_⟩
    · change List.lookup x [(("LEAST_KINDS" : Str), ((.int 2) : U)), (("MOST_KINDS" : Str), ((.int 16) : U))] = some u at h
      by_cases q0 : x = "LEAST_KINDS"
      · subst q0; rw [List.lookup_cons_self] at h; cases h; exact ⟨(.int 2), vc0, PySem.W.mg_of X G con0, conr0, fun _ => rfl⟩
      rw [List.lookup_cons, (beq_eq_false_iff_ne.mpr q0 : (x == ("LEAST_KINDS" : Str)) = false)] at h
      by_cases q1 : x = "MOST_KINDS"
      · subst q1; rw [List.lookup_cons_self] at h; cases h; exact ⟨(.int 16), vc1, PySem.W.mg_of X G con1, conr1, fun _ => rfl⟩
      rw [List.lookup_cons, (beq_eq_false_iff_ne.mpr q1 : (x == ("MOST_KINDS" : Str)) = false)] at h
      cases h
    · change x ∈ [("range" : Str), ("max" : Str), ("abs" : Str), ("int" : Str), ("len" : Str), ("sum" : Str), ("isinstance" : Str), ("bool" : Str), ("divmod" : Str), ("str" : Str), ("list" : Str), ("tuple" : Str), ("dict" : Str), ("min" : Str)] at h
      simp only [List.mem_cons, List.not_mem_nil, or_false] at h
      rcases h with rfl | rfl | rfl | rfl | rfl | rfl | rfl | rfl | rfl | rfl | rfl | rfl | rfl | rfl
      · exact PySem.W.mg_none_of X G z0
      · exact PySem.W.mg_none_of X G z1
      · exact PySem.W.mg_none_of X G z2
      · exact PySem.W.mg_none_of X G z3
      · exact PySem.W.mg_none_of X G z4
      · exact PySem.W.mg_none_of X G z5
      · exact PySem.W.mg_none_of X G z6
      · exact PySem.W.mg_none_of X G z7
      · exact PySem.W.mg_none_of X G z8
      · exact PySem.W.mg_none_of X G z9
      · exact PySem.W.mg_none_of X G z10
      · exact PySem.W.mg_none_of X G z11
      · exact PySem.W.mg_none_of X G z12
      · exact PySem.W.mg_none_of X G z13
    · change List.lookup x [(("InvalidOwn" : Str), (0, ([0] : List Nat))), (("InvalidOther" : Str), (1, ([0] : List Nat))), (("TalkError" : Str), (2, ([] : List Nat)))] = some p at h
      by_cases q0 : x = "InvalidOwn"
      · subst q0; rw [List.lookup_cons_self] at h; cases h
        have OX : OexC K C0 := ⟨⟨_, _, _, _, _, _, _, _, _, _, _, _, _, _, _, xL0, rb0⟩, sa0, eC0, tC0, kC0⟩
        have GI := fun_mk (st := in_InvalidOwn) lI0 cI0 kI0
        exact ⟨PySem.W.mg_of X G aC0, fun _ => ⟨I0, _, ["self", "given"], OX, aI0, tI0, oex1_ok 0 GI sci_InvalidOwn rfl (.inl rfl) (.inl rfl) (by decide +kernel) (by decide +kernel) (by decide +kernel) (by decide +kernel) OX nf0_0, GI.binds (ps := ["self", "given"]) fun _ _ _ _ _ _ us hl => match us, hl with | [_, _], _ => rfl⟩⟩
      rw [List.lookup_cons, (beq_eq_false_iff_ne.mpr q0 : (x == ("InvalidOwn" : Str)) = false)] at h
      by_cases q1 : x = "InvalidOther"
      · subst q1; rw [List.lookup_cons_self] at h; cases h
        have OX : OexC K C1 := ⟨⟨_, _, _, _, _, _, _, _, _, _, _, _, _, _, _, xL1, rb1⟩, sa1, eC1, tC1, kC1⟩
        have GI := fun_mk (st := in_InvalidOther) lI1 cI1 kI1
        exact ⟨PySem.W.mg_of X G aC1, fun _ => ⟨I1, _, ["self", "given"], OX, aI1, tI1, oex1_ok 0 GI sci_InvalidOther rfl (.inl rfl) (.inl rfl) (by decide +kernel) (by decide +kernel) (by decide +kernel) (by decide +kernel) OX nf1_0, GI.binds (ps := ["self", "given"]) fun _ _ _ _ _ _ us hl => match us, hl with | [_, _], _ => rfl⟩⟩
      rw [List.lookup_cons, (beq_eq_false_iff_ne.mpr q1 : (x == ("InvalidOther" : Str)) = false)] at h
      by_cases q2 : x = "TalkError"
      · subst q2; rw [List.lookup_cons_self] at h; cases h
        exact ⟨PySem.W.mg_of X G aC2, fun e => absurd rfl e⟩
      rw [List.lookup_cons, (beq_eq_false_iff_ne.mpr q2 : (x == ("TalkError" : Str)) = false)] at h
      cases h
    · have cl : ∀ c, c < 3 → c = 0 ∨ c = 1 ∨ c = 2 := fun c h => by omega
      have red : ∀ c, cadOf C0 [C0, C1, C2] c = cadOf C0 [C0, C1, C2] (if c < 3 then c else 0) := fun c => by
        by_cases h : c < 3
        · rw [if_pos h]
        · rw [if_neg h]; unfold cadOf; rw [List.getD_eq_getElem?_getD, List.getElem?_eq_none (by simpa using h)]; rfl
      show PySem.W.exmOne K (.ref (cadOf C0 [C0, C1, C2] c)) (.ref (cadOf C0 [C0, C1, C2] c')) = some (subT c c')
      rw [red c, red c']
      unfold subT subOf
      have h1 : (if c < 3 then c else 0) < 3 := by split <;> omega
      have h2 : (if c' < 3 then c' else 0) < 3 := by split <;> omega
      generalize (if c < 3 then c else 0) = i at h1 ⊢
      generalize (if c' < 3 then c' else 0) = j at h2 ⊢
      rcases cl i h1 with rfl | rfl | rfl <;> rcases cl j h2 with rfl | rfl | rfl
      · exact exm_one eC0 iC0 tC0 sb0_0
      · exact exm_one eC1 iC1 tC1 sb0_1
      · exact exm_one eC2 iC2 tC2 sb0_2
      · exact exm_one eC0 iC0 tC0 sb1_0
      · exact exm_one eC1 iC1 tC1 sb1_1
      · exact exm_one eC2 iC2 tC2 sb1_2
      · exact exm_one eC0 iC0 tC0 sb2_0
      · exact exm_one eC1 iC1 tC1 sb2_1
      · exact exm_one eC2 iC2 tC2 sb2_2
    · exact cad_all (p := fun a => XfC K a) ⟨ga0, gg0, eC0, hC0⟩ (by
        intro a ha
        simp only [List.mem_cons, List.not_mem_nil, or_false] at ha
        rcases ha with rfl | rfl | rfl
        · exact ⟨ga0, gg0, eC0, hC0⟩
        · exact ⟨ga1, gg1, eC1, hC1⟩
        · exact ⟨ga2, gg2, eC2, hC2⟩
        ) c
    · have hf : f ∈ [("given" : Str)] := List.mem_of_getElem? (idx_get h)
      refine cad_all (p := fun a => PySem.W.findIn K (.ref a) f = some none) ?_ ?_ c
      · simp only [List.mem_cons, List.not_mem_nil, or_false] at hf
        rcases hf with rfl
        · exact nf0_0
      · intro a ha
        simp only [List.mem_cons, List.not_mem_nil, or_false] at hf ha
        rcases ha with rfl | rfl | rfl <;> rcases hf with rfl
        · exact nf0_0
        · exact nf1_0
        · exact nf2_0
  have T0 : TabOk (tb []) P w K mg base ⟨cadOf C0 [C0, C1, C2], fldOf ["given"]⟩ 2 := TB.tab (by decide) (EntsOk.nil)
  have O0 : FnOk P w K mg base (L2.CX P w) 3 F0 (PySem.W.fnOf "_law_most" "_law_most" (defArgs st__law_most) (defBody st__law_most) (defScope st__law_most) .none kV0 dc0 pm0 an0 cd0 ct0) [] (rdF ⟨cadOf C0 [C0, C1, C2], fldOf ["given"]⟩ 0 f__law_most) := fn_tr T0 G0 sc__law_most sc__law_most.nd rfl tr__law_most
  have E__law_most_0 : EntOk P w K mg base ⟨cadOf C0 [C0, C1, C2], fldOf ["given"]⟩ 3 ⟨"_law_most", 0, [], fun us _ => f__law_most us⟩ := ent_pos O0 (PySem.W.mg_of X G aF0) kF0 rfl B0
  have T1 : TabOk (tb []) P w K mg base ⟨cadOf C0 [C0, C1, C2], fldOf ["given"]⟩ 2 := TB.tab (by decide) (EntsOk.nil)
  have O1 : FnOk P w K mg base (L2.CX P w) 3 F1 (PySem.W.fnOf "_law_box" "_law_box" (defArgs st__law_box) (defBody st__law_box) (defScope st__law_box) .none kV1 dc1 pm1 an1 cd1 ct1) ["great"] (rdF ⟨cadOf C0 [C0, C1, C2], fldOf ["given"]⟩ 1 f__law_box) := fn_tr T1 G1 sc__law_box sc__law_box.nd rfl tr__law_box
  have E__law_box_0 : EntOk P w K mg base ⟨cadOf C0 [C0, C1, C2], fldOf ["given"]⟩ 3 ⟨"_law_box", 1, [], fun us _ => f__law_box us⟩ := ent_pos O1 (PySem.W.mg_of X G aF1) kF1 rfl B1
  have T2 : TabOk (tb []) P w K mg base ⟨cadOf C0 [C0, C1, C2], fldOf ["given"]⟩ 2 := TB.tab (by decide) (EntsOk.nil)
  have O2 : FnOk P w K mg base (L2.CX P w) 3 F2 (PySem.W.fnOf "_law_cell" "_law_cell" (defArgs st__law_cell) (defBody st__law_cell) (defScope st__law_cell) .none kV2 dc2 pm2 an2 cd2 ct2) ["script", "k"] (rdF ⟨cadOf C0 [C0, C1, C2], fldOf ["given"]⟩ 2 f__law_cell) := fn_tr T2 G2 sc__law_cell sc__law_cell.nd rfl tr__law_cell
  have E__law_cell_0 : EntOk P w K mg base ⟨cadOf C0 [C0, C1, C2], fldOf ["given"]⟩ 3 ⟨"_law_cell", 2, [], fun us _ => f__law_cell us⟩ := ent_pos O2 (PySem.W.mg_of X G aF2) kF2 rfl B2
  have T3 : TabOk (tb []) P w K mg base ⟨cadOf C0 [C0, C1, C2], fldOf ["given"]⟩ 2 := TB.tab (by decide) (EntsOk.nil)
  have O3 : FnOk P w K mg base (L2.CX P w) 3 F3 (PySem.W.fnOf "_law_take" "_law_take" (defArgs st__law_take) (defBody st__law_take) (defScope st__law_take) .none kV3 dc3 pm3 an3 cd3 ct3) ["box", "many"] (rdF ⟨cadOf C0 [C0, C1, C2], fldOf ["given"]⟩ 2 f__law_take) := fn_tr T3 G3 sc__law_take sc__law_take.nd rfl tr__law_take
  have E__law_take_0 : EntOk P w K mg base ⟨cadOf C0 [C0, C1, C2], fldOf ["given"]⟩ 3 ⟨"_law_take", 2, [], fun us _ => f__law_take us⟩ := ent_pos O3 (PySem.W.mg_of X G aF3) kF3 rfl B3
  have T4 : TabOk (tb []) P w K mg base ⟨cadOf C0 [C0, C1, C2], fldOf ["given"]⟩ 2 := TB.tab (by decide) (EntsOk.nil)
  have O4 : FnOk P w K mg base (L2.CX P w) 3 F4 (PySem.W.fnOf "_law_is_good" "_law_is_good" (defArgs st__law_is_good) (defBody st__law_is_good) (defScope st__law_is_good) .none kV4 dc4 pm4 an4 cd4 ct4) ["thing"] (rdF ⟨cadOf C0 [C0, C1, C2], fldOf ["given"]⟩ 1 f__law_is_good) := fn_tr T4 G4 sc__law_is_good sc__law_is_good.nd rfl tr__law_is_good
  have E__law_is_good_0 : EntOk P w K mg base ⟨cadOf C0 [C0, C1, C2], fldOf ["given"]⟩ 3 ⟨"_law_is_good", 1, [], fun us _ => f__law_is_good us⟩ := ent_pos O4 (PySem.W.mg_of X G aF4) kF4 rfl B4
  have T5 : TabOk (tb []) P w K mg base ⟨cadOf C0 [C0, C1, C2], fldOf ["given"]⟩ 2 := TB.tab (by decide) (EntsOk.nil)
  have O5 : FnOk P w K mg base (L2.CX P w) 3 F5 (PySem.W.fnOf "is_whole" "is_whole" (defArgs st_is_whole) (defBody st_is_whole) (defScope st_is_whole) .none kV5 dc5 pm5 an5 cd5 ct5) ["value"] (rdF ⟨cadOf C0 [C0, C1, C2], fldOf ["given"]⟩ 1 f_is_whole) := fn_tr T5 G5 sc_is_whole sc_is_whole.nd rfl tr_is_whole
  have E_is_whole_0 : EntOk P w K mg base ⟨cadOf C0 [C0, C1, C2], fldOf ["given"]⟩ 3 ⟨"is_whole", 1, [], fun us _ => f_is_whole us⟩ := ent_pos O5 (PySem.W.mg_of X G aF5) kF5 rfl B5
  have T6 : TabOk (tb [⟨"is_whole", 1, [], fun us _ => f_is_whole us⟩]) P w K mg base ⟨cadOf C0 [C0, C1, C2], fldOf ["given"]⟩ 3 := TB.tab (by decide) (.cons (E_is_whole_0.mono (by decide)) (EntsOk.nil))
  have O6 : FnOk P w K mg base (L2.CX P w) 4 F6 (PySem.W.fnOf "is_between" "is_between" (defArgs st_is_between) (defBody st_is_between) (defScope st_is_between) .none kV6 dc6 pm6 an6 cd6 ct6) ["value", "least", "most"] (rdF ⟨cadOf C0 [C0, C1, C2], fldOf ["given"]⟩ 3 f_is_between) := fn_tr T6 G6 sc_is_between sc_is_between.nd rfl tr_is_between
  have E_is_between_0 : EntOk P w K mg base ⟨cadOf C0 [C0, C1, C2], fldOf ["given"]⟩ 4 ⟨"is_between", 3, [], fun us _ => f_is_between us⟩ := ent_pos O6 (PySem.W.mg_of X G aF6) kF6 rfl B6
  have T7 : TabOk (tb [⟨"is_between", 3, [], fun us _ => f_is_between us⟩]) P w K mg base ⟨cadOf C0 [C0, C1, C2], fldOf ["given"]⟩ 4 := TB.tab (by decide) (.cons (E_is_between_0.mono (by decide)) (EntsOk.nil))
  have O7 : FnOk P w K mg base (L2.CX P w) 5 F7 (PySem.W.fnOf "check_both" "check_both" (defArgs st_check_both) (defBody st_check_both) (defScope st_check_both) .none kV7 dc7 pm7 an7 cd7 ct7) ["own", "other", "most"] (rdF ⟨cadOf C0 [C0, C1, C2], fldOf ["given"]⟩ 3 f_check_both) := fn_tr T7 G7 sc_check_both sc_check_both.nd rfl tr_check_both
  have E_check_both_0 : EntOk P w K mg base ⟨cadOf C0 [C0, C1, C2], fldOf ["given"]⟩ 5 ⟨"check_both", 3, [], fun us _ => f_check_both us⟩ := ent_pos O7 (PySem.W.mg_of X G aF7) kF7 rfl B7
  have T8 : TabOk (tb []) P w K mg base ⟨cadOf C0 [C0, C1, C2], fldOf ["given"]⟩ 2 := TB.tab (by decide) (EntsOk.nil)
  have O8 : FnOk P w K mg base (L2.CX P w) 3 F8 (PySem.W.fnOf "choose_of" "choose_of" (defArgs st_choose_of) (defBody st_choose_of) (defScope st_choose_of) .none kV8 dc8 pm8 an8 cd8 ct8) ["number", "many"] (rdF ⟨cadOf C0 [C0, C1, C2], fldOf ["given"]⟩ 2 f_choose_of) := fn_tr T8 G8 sc_choose_of sc_choose_of.nd rfl tr_choose_of
  have E_choose_of_0 : EntOk P w K mg base ⟨cadOf C0 [C0, C1, C2], fldOf ["given"]⟩ 3 ⟨"choose_of", 2, [], fun us _ => f_choose_of us⟩ := ent_pos O8 (PySem.W.mg_of X G aF8) kF8 rfl B8
  have T9 : TabOk (tb [⟨"choose_of", 2, [], fun us _ => f_choose_of us⟩]) P w K mg base ⟨cadOf C0 [C0, C1, C2], fldOf ["given"]⟩ 3 := TB.tab (by decide) (.cons (E_choose_of_0.mono (by decide)) (EntsOk.nil))
  have O9 : FnOk P w K mg base (L2.CX P w) 4 F9 (PySem.W.fnOf "arrangements_of" "arrangements_of" (defArgs st_arrangements_of) (defBody st_arrangements_of) (defScope st_arrangements_of) .none kV9 dc9 pm9 an9 cd9 ct9) ["parts"] (rdF ⟨cadOf C0 [C0, C1, C2], fldOf ["given"]⟩ 1 f_arrangements_of) := fn_tr T9 G9 sc_arrangements_of sc_arrangements_of.nd rfl tr_arrangements_of
  have E_arrangements_of_0 : EntOk P w K mg base ⟨cadOf C0 [C0, C1, C2], fldOf ["given"]⟩ 4 ⟨"arrangements_of", 1, [], fun us _ => f_arrangements_of us⟩ := ent_pos O9 (PySem.W.mg_of X G aF9) kF9 rfl B9
  have T10 : TabOk (tb []) P w K mg base ⟨cadOf C0 [C0, C1, C2], fldOf ["given"]⟩ 2 := TB.tab (by decide) (EntsOk.nil)
  have O10 : FnOk P w K mg base (L2.CX P w) 3 F10 (PySem.W.fnOf "even_parts_of" "even_parts_of" (defArgs st_even_parts_of) (defBody st_even_parts_of) (defScope st_even_parts_of) .none kV10 dc10 pm10 an10 cd10 ct10) ["total", "many"] (rdF ⟨cadOf C0 [C0, C1, C2], fldOf ["given"]⟩ 2 f_even_parts_of) := fn_tr T10 G10 sc_even_parts_of sc_even_parts_of.nd rfl tr_even_parts_of
  have E_even_parts_of_0 : EntOk P w K mg base ⟨cadOf C0 [C0, C1, C2], fldOf ["given"]⟩ 3 ⟨"even_parts_of", 2, [], fun us _ => f_even_parts_of us⟩ := ent_pos O10 (PySem.W.mg_of X G aF10) kF10 rfl B10
  have T11 : TabOk (tb [⟨"arrangements_of", 1, [], fun us _ => f_arrangements_of us⟩, ⟨"even_parts_of", 2, [], fun us _ => f_even_parts_of us⟩]) P w K mg base ⟨cadOf C0 [C0, C1, C2], fldOf ["given"]⟩ 4 := TB.tab (by decide) (.cons (E_arrangements_of_0.mono (by decide)) (.cons (E_even_parts_of_0.mono (by decide)) (EntsOk.nil)))
  have O11 : FnOk P w K mg base (L2.CX P w) 5 F11 (PySem.W.fnOf "most_told" "most_told" (defArgs st_most_told) (defBody st_most_told) (defScope st_most_told) .none kV11 dc11 pm11 an11 cd11 ct11) ["kinds", "parts"] (rdF ⟨cadOf C0 [C0, C1, C2], fldOf ["given"]⟩ 2 f_most_told) := fn_tr T11 G11 sc_most_told sc_most_told.nd rfl tr_most_told
  have E_most_told_0 : EntOk P w K mg base ⟨cadOf C0 [C0, C1, C2], fldOf ["given"]⟩ 5 ⟨"most_told", 2, [], fun us _ => f_most_told us⟩ := ent_pos O11 (PySem.W.mg_of X G aF11) kF11 rfl B11
  have T12 : TabOk (tb [⟨"most_told", 2, [], fun us _ => f_most_told us⟩]) P w K mg base ⟨cadOf C0 [C0, C1, C2], fldOf ["given"]⟩ 5 := TB.tab (by decide) (.cons (E_most_told_0.mono (by decide)) (EntsOk.nil))
  have O12 : FnOk P w K mg base (L2.CX P w) 6 F12 (PySem.W.fnOf "both_of" "both_of" (defArgs st_both_of) (defBody st_both_of) (defScope st_both_of) .none kV12 dc12 pm12 an12 cd12 ct12) ["own", "other", "known"] (rdF ⟨cadOf C0 [C0, C1, C2], fldOf ["given"]⟩ 3 f_both_of) := fn_tr T12 G12 sc_both_of sc_both_of.nd rfl tr_both_of
  have E_both_of_0 : EntOk P w K mg base ⟨cadOf C0 [C0, C1, C2], fldOf ["given"]⟩ 6 ⟨"both_of", 3, [], fun us _ => f_both_of us⟩ := ent_pos O12 (PySem.W.mg_of X G aF12) kF12 rfl B12
  have T13 : TabOk (tb [⟨"check_both", 3, [], fun us _ => f_check_both us⟩, ⟨"both_of", 3, [], fun us _ => f_both_of us⟩]) P w K mg base ⟨cadOf C0 [C0, C1, C2], fldOf ["given"]⟩ 6 := TB.tab (by decide) (.cons (E_check_both_0.mono (by decide)) (.cons (E_both_of_0.mono (by decide)) (EntsOk.nil)))
  have O13 : FnOk P w K mg base (L2.CX P w) 7 F13 (PySem.W.fnOf "both_known" "both_known" (defArgs st_both_known) (defBody st_both_known) (defScope st_both_known) .none kV13 dc13 pm13 an13 cd13 ct13) ["own", "other"] (rdF ⟨cadOf C0 [C0, C1, C2], fldOf ["given"]⟩ 2 f_both_known) := fn_tr T13 G13 sc_both_known sc_both_known.nd rfl tr_both_known
  have E_both_known_0 : EntOk P w K mg base ⟨cadOf C0 [C0, C1, C2], fldOf ["given"]⟩ 7 ⟨"both_known", 2, [], fun us _ => f_both_known us⟩ := ent_pos O13 (PySem.W.mg_of X G aF13) kF13 rfl B13
  have E_both_known_1 : EntOk P w K mg base ⟨cadOf C0 [C0, C1, C2], fldOf ["given"]⟩ 7 ⟨"both_known", 0, ["other", "own"], fun us ys => f_both_known (pick .non [1, 0] (us ++ ys))⟩ := ent_kw [1, 0] O13 (PySem.W.mg_of X G aF13) kF13 rfl fun s us zs h1 h2 => match us, zs, h1, h2 with | [], [_, _], _, _ => .of_eq rfl
  have T14 : TabOk (tb [⟨"check_both", 3, [], fun us _ => f_check_both us⟩, ⟨"both_of", 3, [], fun us _ => f_both_of us⟩]) P w K mg base ⟨cadOf C0 [C0, C1, C2], fldOf ["given"]⟩ 6 := TB.tab (by decide) (.cons (E_check_both_0.mono (by decide)) (.cons (E_both_of_0.mono (by decide)) (EntsOk.nil)))
  have O14 : FnOk P w K mg base (L2.CX P w) 7 F14 (PySem.W.fnOf "both" "both" (defArgs st_both) (defBody st_both) (defScope st_both) .none kV14 dc14 pm14 an14 cd14 ct14) ["own", "other"] (rdF ⟨cadOf C0 [C0, C1, C2], fldOf ["given"]⟩ 2 f_both) := fn_tr T14 G14 sc_both sc_both.nd rfl tr_both
  have E_both_0 : EntOk P w K mg base ⟨cadOf C0 [C0, C1, C2], fldOf ["given"]⟩ 7 ⟨"both", 2, [], fun us _ => f_both us⟩ := ent_pos O14 (PySem.W.mg_of X G aF14) kF14 rfl B14
  have E_both_1 : EntOk P w K mg base ⟨cadOf C0 [C0, C1, C2], fldOf ["given"]⟩ 7 ⟨"both", 0, ["other", "own"], fun us ys => f_both (pick .non [1, 0] (us ++ ys))⟩ := ent_kw [1, 0] O14 (PySem.W.mg_of X G aF14) kF14 rfl fun s us zs h1 h2 => match us, zs, h1, h2 with | [], [_, _], _, _ => .of_eq rfl
  have T15 : TabOk (tb [⟨"both_known", 2, [], fun us _ => f_both_known us⟩, ⟨"both_known", 0, ["other", "own"], fun us ys => f_both_known (pick .non [1, 0] (us ++ ys))⟩, ⟨"both", 2, [], fun us _ => f_both us⟩, ⟨"both", 0, ["other", "own"], fun us ys => f_both (pick .non [1, 0] (us ++ ys))⟩]) P w K mg base ⟨cadOf C0 [C0, C1, C2], fldOf ["given"]⟩ 7 := TB.tab (by decide) (.cons (E_both_known_0.mono (by decide)) (.cons (E_both_known_1.mono (by decide)) (.cons (E_both_0.mono (by decide)) (.cons (E_both_1.mono (by decide)) (EntsOk.nil)))))
  have O15 : FnOk P w K mg base (L2.CX P w) 8 F15 (PySem.W.fnOf "_law_told" "_law_told" (defArgs st__law_told) (defBody st__law_told) (defScope st__law_told) .none kV15 dc15 pm15 an15 cd15 ct15) ["known", "named", "own", "other"] (rdF ⟨cadOf C0 [C0, C1, C2], fldOf ["given"]⟩ 4 f__law_told) := fn_tr T15 G15 sc__law_told sc__law_told.nd rfl tr__law_told
  have E__law_told_0 : EntOk P w K mg base ⟨cadOf C0 [C0, C1, C2], fldOf ["given"]⟩ 8 ⟨"_law_told", 4, [], fun us _ => f__law_told us⟩ := ent_pos O15 (PySem.W.mg_of X G aF15) kF15 rfl B15
  have R16 : ∀ n, FnOk P w K mg base (L2.CX P w) (2 + n) F16 (PySem.W.fnOf "_law_same" "_law_same" (defArgs st__law_same) (defBody st__law_same) (defScope st__law_same) .none kV16 dc16 pm16 an16 cd16 ct16) ["told", "due"] (rdF ⟨cadOf C0 [C0, C1, C2], fldOf ["given"]⟩ 2 (f__law_same n)) := fun n => by
    induction n with
    | zero => exact fn_stuck G16 B16
    | succ n ih =>
      have T : TabOk (tb [⟨"_law_same", 2, [], fun us _ => f__law_same n us⟩]) P w K mg base ⟨cadOf C0 [C0, C1, C2], fldOf ["given"]⟩ (2 + n) := TB.tab (by omega) (.cons (ent_pos ih (PySem.W.mg_of X G aF16) kF16 rfl B16) (EntsOk.mono (EntsOk.nil : EntsOk _ _ _ _ _ _ 2 _) (by omega)))
      exact fn_tr T G16 sc__law_same sc__law_same.nd rfl (tr__law_same _)
  have O16 := R16 4
  have E__law_same_0 : EntOk P w K mg base ⟨cadOf C0 [C0, C1, C2], fldOf ["given"]⟩ 6 ⟨"_law_same", 2, [], fun us _ => (f__law_same 4) us⟩ := ent_pos O16 (PySem.W.mg_of X G aF16) kF16 rfl B16
  have T17 : TabOk (tb [⟨"_law_is_good", 1, [], fun us _ => f__law_is_good us⟩, ⟨"_law_told", 4, [], fun us _ => f__law_told us⟩, ⟨"_law_same", 2, [], fun us _ => (f__law_same 4) us⟩]) P w K mg base ⟨cadOf C0 [C0, C1, C2], fldOf ["given"]⟩ 8 := TB.tab (by decide) (.cons (E__law_is_good_0.mono (by decide)) (.cons (E__law_told_0.mono (by decide)) (.cons (E__law_same_0.mono (by decide)) (EntsOk.nil))))
  have O17 : FnOk P w K mg base (L2.CX P w) 9 F17 (PySem.W.fnOf "_law_right" "_law_right" (defArgs st__law_right) (defBody st__law_right) (defScope st__law_right) .none kV17 dc17 pm17 an17 cd17 ct17) ["most", "known", "named", "own", "other"] (rdF ⟨cadOf C0 [C0, C1, C2], fldOf ["given"]⟩ 5 f__law_right) := fn_tr T17 G17 sc__law_right sc__law_right.nd rfl tr__law_right
  have E__law_right_0 : EntOk P w K mg base ⟨cadOf C0 [C0, C1, C2], fldOf ["given"]⟩ 9 ⟨"_law_right", 5, [], fun us _ => f__law_right us⟩ := ent_pos O17 (PySem.W.mg_of X G aF17) kF17 rfl B17
  have T18 : TabOk (tb [⟨"_law_take", 2, [], fun us _ => f__law_take us⟩]) P w K mg base ⟨cadOf C0 [C0, C1, C2], fldOf ["given"]⟩ 3 := TB.tab (by decide) (.cons (E__law_take_0.mono (by decide)) (EntsOk.nil))
  have O18 : FnOk P w K mg base (L2.CX P w) 4 F18 (PySem.W.fnOf "_law_odd" "_law_odd" (defArgs st__law_odd) (defBody st__law_odd) (defScope st__law_odd) .none kV18 dc18 pm18 an18 cd18 ct18) ["box", "good"] (rdF ⟨cadOf C0 [C0, C1, C2], fldOf ["given"]⟩ 2 f__law_odd) := fn_tr T18 G18 sc__law_odd sc__law_odd.nd rfl tr__law_odd
  have E__law_odd_0 : EntOk P w K mg base ⟨cadOf C0 [C0, C1, C2], fldOf ["given"]⟩ 4 ⟨"_law_odd", 2, [], fun us _ => f__law_odd us⟩ := ent_pos O18 (PySem.W.mg_of X G aF18) kF18 rfl B18
  have T19 : TabOk (tb [⟨"_law_most", 0, [], fun us _ => f__law_most us⟩, ⟨"_law_box", 1, [], fun us _ => f__law_box us⟩, ⟨"_law_cell", 2, [], fun us _ => f__law_cell us⟩, ⟨"_law_take", 2, [], fun us _ => f__law_take us⟩, ⟨"_law_right", 5, [], fun us _ => f__law_right us⟩, ⟨"_law_odd", 2, [], fun us _ => f__law_odd us⟩]) P w K mg base ⟨cadOf C0 [C0, C1, C2], fldOf ["given"]⟩ 9 := TB.tab (by decide) (.cons (E__law_most_0.mono (by decide)) (.cons (E__law_box_0.mono (by decide)) (.cons (E__law_cell_0.mono (by decide)) (.cons (E__law_take_0.mono (by decide)) (.cons (E__law_right_0.mono (by decide)) (.cons (E__law_odd_0.mono (by decide)) (EntsOk.nil)))))))
  have O19 : FnOk P w K mg base (L2.CX P w) 10 F19 (PySem.W.fnOf "law" "law" (defArgs st_law) (defBody st_law) (defScope st_law) .none kV19 dc19 pm19 an19 cd19 ct19) ["script"] (rdF ⟨cadOf C0 [C0, C1, C2], fldOf ["given"]⟩ 1 f_law) := fn_tr T19 G19 sc_law sc_law.nd rfl tr_law
  exact O19
end K50

set_option Elab.async false
set_option linter.all false
set_option maxRecDepth 100000
set_option autoImplicit false
open PySem PySem.W PyProof.Rows
set_option maxRecDepth 100000 in
set_option maxHeartbeats 0 in
theorem PySem.Challenge.cw_upforgood_k50_numbers_told_at_once_holds : PySem.Challenge.rw_upforgood_k50_numbers_told_at_once.Holds := by
  w_on; o_law; k_head; (case hw => w_witness2)
  k_fill
  refine PM.walk (l := PySem.Challenge.rw_upforgood_k50_numbers_told_at_once) (k := 10) (fm := K50.f_law) rfl rfl ⟨rfl, by decide, by decide⟩ (fun w h Y => PySem.W.kIn_of Y) (fun w => PM.noList_of (by kernel_rfl)) ?F K50.law_ok
  case F =>
    intro w mg fa h KX G hmg
    refine' K50.all_mk KX G hmg ?aC0 ?ga0 ?gg0 ?eC0 ?tC0 ?hC0 ?iC0 ?nf0_0 ?xL0 ?rb0 ?sa0 ?kC0 ?aI0 ?tI0 ?lI0 ?cI0 ?kI0 ?aC1 ?ga1 ?gg1 ?eC1 ?tC1 ?hC1 ?iC1 ?nf1_0 ?xL1 ?rb1 ?sa1 ?kC1 ?aI1 ?tI1 ?lI1 ?cI1 ?kI1 ?aC2 ?ga2 ?gg2 ?eC2 ?tC2 ?hC2 ?iC2 ?nf2_0 ?sb0_0 ?sb0_1 ?sb0_2 ?sb1_0 ?sb1_1 ?sb1_2 ?sb2_0 ?sb2_1 ?sb2_2 ?z0 ?z1 ?z2 ?z3 ?z4 ?z5 ?z6 ?z7 ?z8 ?z9 ?z10 ?z11 ?z12 ?z13 ?con0 ?conr0 ?con1 ?conr1 ?aF0 ?lF0 ?cF0 ?kF0 ?aF1 ?lF1 ?cF1 ?kF1 ?aF2 ?lF2 ?cF2 ?kF2 ?aF3 ?lF3 ?cF3 ?kF3 ?aF4 ?lF4 ?cF4 ?kF4 ?aF5 ?lF5 ?cF5 ?kF5 ?aF6 ?lF6 ?cF6 ?kF6 ?aF7 ?lF7 ?cF7 ?kF7 ?aF8 ?lF8 ?cF8 ?kF8 ?aF9 ?lF9 ?cF9 ?kF9 ?aF10 ?lF10 ?cF10 ?kF10 ?aF11 ?lF11 ?cF11 ?kF11 ?aF12 ?lF12 ?cF12 ?kF12 ?aF13 ?lF13 ?cF13 ?kF13 ?aF14 ?lF14 ?cF14 ?kF14 ?aF15 ?lF15 ?cF15 ?kF15 ?aF16 ?lF16 ?cF16 ?kF16 ?aF17 ?lF17 ?cF17 ?kF17 ?aF18 ?lF18 ?cF18 ?kF18 ?aF19 ?lF19 ?cF19 ?kF19
    (case aC0 => k_is)
    (case ga0 => k_is)
    (case gg0 => k_is)
    (case eC0 => k_is)
    (case tC0 => k_is)
    (case hC0 => k_is)
    (case iC0 => k_is)
    (case nf0_0 => k_is)
    (case xL0 => k_is)
    (case rb0 => first | rfl | decide +kernel | kernel_rfl)
    (case sa0 => k_is)
    (case kC0 => k_is)
    (case aI0 => k_is)
    (case tI0 => k_is)
    (case lI0 => k_is)
    (case cI0 => k_is)
    (case kI0 => k_is)
    (case aC1 => k_is)
    (case ga1 => k_is)
    (case gg1 => k_is)
    (case eC1 => k_is)
    (case tC1 => k_is)
    (case hC1 => k_is)
    (case iC1 => k_is)
    (case nf1_0 => k_is)
    (case xL1 => k_is)
    (case rb1 => first | rfl | decide +kernel | kernel_rfl)
    (case sa1 => k_is)
    (case kC1 => k_is)
    (case aI1 => k_is)
    (case tI1 => k_is)
    (case lI1 => k_is)
    (case cI1 => k_is)
    (case kI1 => k_is)
    (case aC2 => k_is)
    (case ga2 => k_is)
    (case gg2 => k_is)
    (case eC2 => k_is)
    (case tC2 => k_is)
    (case hC2 => k_is)
    (case iC2 => k_is)
    (case nf2_0 => k_is)
    (case sb0_0 => k_is)
    (case sb0_1 => k_is)
    (case sb0_2 => k_is)
    (case sb1_0 => k_is)
    (case sb1_1 => k_is)
    (case sb1_2 => k_is)
    (case sb2_0 => k_is)
    (case sb2_1 => k_is)
    (case sb2_2 => k_is)
    (case z0 => k_is)
    (case z1 => k_is)
    (case z2 => k_is)
    (case z3 => k_is)
    (case z4 => k_is)
    (case z5 => k_is)
    (case z6 => k_is)
    (case z7 => k_is)
    (case z8 => k_is)
    (case z9 => k_is)
    (case z10 => k_is)
    (case z11 => k_is)
    (case z12 => k_is)
    (case z13 => k_is)
    (case con0 => k_is)
    (case conr0 => first | exact ⟨_, rfl⟩ | rfl)
    (case con1 => k_is)
    (case conr1 => first | exact ⟨_, rfl⟩ | rfl)
    (case aF0 => k_is)
    (case lF0 => k_is)
    (case cF0 => k_is)
    (case kF0 => k_is)
    (case aF1 => k_is)
    (case lF1 => k_is)
    (case cF1 => k_is)
    (case kF1 => k_is)
    (case aF2 => k_is)
    (case lF2 => k_is)
    (case cF2 => k_is)
    (case kF2 => k_is)
    (case aF3 => k_is)
    (case lF3 => k_is)
    (case cF3 => k_is)
    (case kF3 => k_is)
    (case aF4 => k_is)
    (case lF4 => k_is)
    (case cF4 => k_is)
    (case kF4 => k_is)
    (case aF5 => k_is)
    (case lF5 => k_is)
    (case cF5 => k_is)
    (case kF5 => k_is)
    (case aF6 => k_is)
    (case lF6 => k_is)
    (case cF6 => k_is)
    (case kF6 => k_is)
    (case aF7 => k_is)
    (case lF7 => k_is)
    (case cF7 => k_is)
    (case kF7 => k_is)
    (case aF8 => k_is)
    (case lF8 => k_is)
    (case cF8 => k_is)
    (case kF8 => k_is)
    (case aF9 => k_is)
    (case lF9 => k_is)
    (case cF9 => k_is)
    (case kF9 => k_is)
    (case aF10 => k_is)
    (case lF10 => k_is)
    (case cF10 => k_is)
    (case kF10 => k_is)
    (case aF11 => k_is)
    (case lF11 => k_is)
    (case cF11 => k_is)
    (case kF11 => k_is)
    (case aF12 => k_is)
    (case lF12 => k_is)
    (case cF12 => k_is)
    (case kF12 => k_is)
    (case aF13 => k_is)
    (case lF13 => k_is)
    (case cF13 => k_is)
    (case kF13 => k_is)
    (case aF14 => k_is)
    (case lF14 => k_is)
    (case cF14 => k_is)
    (case kF14 => k_is)
    (case aF15 => k_is)
    (case lF15 => k_is)
    (case cF15 => k_is)
    (case kF15 => k_is)
    (case aF16 => k_is)
    (case lF16 => k_is)
    (case cF16 => k_is)
    (case kF16 => k_is)
    (case aF17 => k_is)
    (case lF17 => k_is)
    (case cF17 => k_is)
    (case kF17 => k_is)
    (case aF18 => k_is)
    (case lF18 => k_is)
    (case cF18 => k_is)
    (case kF18 => k_is)
    (case aF19 => k_is)
    (case lF19 => k_is)
    (case cF19 => k_is)
    (case kF19 => k_is)

